import PyProof.Rows.All
import Wide.All
import OpenK.AllK
import Wide.FinOn
import HandS.ForMost
import HandS.ForExc
import HandS.Deep
import HandS.TupAny
import HandS.TupLe
import HandS.TupMul
import HandS.Conv
import HandS.Zip
import HandS.Rev
import HandS.Strs
import HandS.Style
import HandS.Wide
import HandS.WideMore
import HandS.Flow
import HandS.Head0
import HandS.Head1
import HandS.Head2
import HandS.Defaults
import HandS.HeadEnd
import HandS.HeadHook1
import HandS.HeadHook2
import HandS.Small
import HandS.StrMore
import HandS.StrSplit
import KE.SortData
import KE.KIndexOf
import HandS.Dict
import HandS.TupLen
import HandS.WordsDict
import HandS.IsInst
import HandS.SetFor
import KE.GoesRev
import KE.DataMinMax
import KE.GoesMore
import HandS.Flt
import HandS.ExcOwn
import HandS.ExcIs
import HandS.HotCalls
import HandS.RaiseMore
import HandS.ExcInit
import HandS.ExcField
import HandS.TryOnly
import HandS.More
import HandS.HeadHook3
import HandS.Text
import PyProof.FactsAll.set_1
import HandS.TupSets
import PyProof.IsiTupleOf
import PySem.Challenge.RW_tienumbers_k74_whole_cuts_and_places
set_option Elab.async false
set_option linter.all false
set_option maxRecDepth 100000
set_option maxHeartbeats 4000000
set_option autoImplicit false
section
namespace TN
open PySem PySem.Spec PyProof.Rows L2
abbrev D := PyData
def keyD : Key → D
  | .inl i => .int i
  | .inr s => .str s
def tkD (ks : List Key) : D := .tuple (ks.map keyD)
/-! a caught exception, as data: its class's name, its fields -/
def exHO (a : Addr) (oe : Obj) : HO := .ext fun h => h.get? a = some oe
/-- what an exception's class must say, so that its instances are asked rightly -/
def exC (K : PySem.W.Frag) (C : Addr) : Bool := decide (PySem.W.findIn K (.ref C) "__getattribute__" = some (some (.builtin "BaseException.__getattribute__"))) && (decide (PySem.W.findIn K (.ref C) "__getattr__" = some none) && (decide (PySem.W.subIn K (.ref C) (.type "BaseException") = some true) &&
  (PySem.W.hasDictIn K C && (decide (PySem.W.findIn K (.ref C) "__class__" = some (some (.builtin "object.__class__"))) && (decide (PySem.W.specialIn K (.builtin "object.__class__") "__get__" = some (some (.builtin "getset_descriptor.__get__"))) &&
  (decide (PySem.W.takesIn K (.builtin "object.__class__") = some true) && decide (PySem.W.mroIn K C (.type "object") = some true)))))))
def exTy : List String := ["bool", "int", "str", "list", "tuple"]
def exT (K : PySem.W.Frag) (C : Addr) : Bool := exTy.all fun T => decide (PySem.W.kitOne K (.ref C) (.type T) = some false)
def ExO (K : PySem.W.Frag) (cls : Str) (d : Option Addr) (oe : Obj) : Prop := oe.cls = .ref (He.ga K cls) ∧ oe.dict = d ∧ (∃ vs, oe.data = .fields vs) ∧ exC K (He.ga K cls) = true ∧ exT K (He.ga K cls) = true
def exD (cls : Str) (ds : List (Str × D)) : D := .dict ((.bool true, .str cls) :: ds.map fun p => (.str p.1, p.2))
def isE : List (D × D) → Bool
  | (.bool true, _) :: _ => true
  | _ => false
/-- rows of a dict whose keys are tuples of whole numbers: a key, its address, the value -/
abbrev RowT := List Key × Addr × V
abbrev PRT : List RowT → List (List Key × Addr × Value) → Prop := Paired fun p q => p.1 = q.1 ∧ p.2.1 = q.2.1 ∧ RelV p.2.2 q.2.2
def RawT (a : Addr) (rs : List RowT) (h : Heap) : Prop := rs.length ≤ sizeLine ∧ (a == sysModules) = false ∧ (∀ r ∈ rs, ∀ k ∈ r.1, ∃ i : Int, k = .inl i) ∧
  ∃ (P : Program) (w : World) (xs : List (List Key × Addr × Value)), PRT rs xs ∧ ∃ o es ep, h.get? a = some o ∧ o.ExactDict ∧ o.data = .dict es ep ∧ es.toList = xs.map (entryOfKey (tupleKind (mixKind P w))) ∧ (xs.map (·.1)).Nodup
abbrev dtO (a : Addr) (rs : List RowT) : HO := .ext (RawT a rs)
/-- a tuple that has no dict of its own -/
def Kt (G : Hp) (a : Addr) (xs : List V) : Prop := ∃ o : Obj, G a = some (.frz o (.tup xs)) ∧ o.dict = none
mutual
inductive Fz (K : PySem.W.Frag) (G : Hp) : V → D → Prop
  | non : Fz K G .non .none
  | bl (b : Bool) : Fz K G (.bl b) (.bool b)
  | int (i : Int) : Fz K G (.int i) (.int i)
  | str (x : Str) : Fz K G (.str x) (.str x)
  | lst {a : Addr} {xs : List V} {ds : List D} : Rd G a (.lst xs) → FzA K G xs ds → Fz K G (.ref a) (.list ds)
  | tup {a : Addr} {xs : List V} {ds : List D} : Kt G a xs → FzA K G xs ds → Fz K G (.ref a) (.tuple ds)
  | dK {a : Addr} {kvs : List (Key × V)} {es : List (D × D)} : G a = some (.dK kvs) → FzK K G kvs es → Fz K G (.ref a) (.dict es)
  | dT {a : Addr} {kvs : List RowT} {es : List (D × D)} : G a = some (dtO a kvs) → FzT K G kvs es → Fz K G (.ref a) (.dict ((.none, .none) :: es))
  | ex {a : Addr} {oe : Obj} {cls : Str} {d : Option Addr} {fs : List (Str × V)} {ds : List (Str × D)} : G a = some (exHO a oe) → ExO K cls d oe → (∀ dd, d = some dd → G dd = some (.xd fs)) → (d = none → ds = []) → FzN K G fs ds → Fz K G (.ref a) (exD cls ds)
inductive FzA (K : PySem.W.Frag) (G : Hp) : List V → List D → Prop
  | nil : FzA K G [] []
  | cons {v : V} {vs : List V} {d : D} {ds : List D} : Fz K G v d → FzA K G vs ds → FzA K G (v :: vs) (d :: ds)
inductive FzK (K : PySem.W.Frag) (G : Hp) : List (Key × V) → List (D × D) → Prop
  | nil : FzK K G [] []
  | cons {k : Key} {v : V} {vs : List (Key × V)} {d : D} {ds : List (D × D)} : Fz K G v d → FzK K G vs ds → FzK K G ((k, v) :: vs) ((keyD k, d) :: ds)
inductive FzT (K : PySem.W.Frag) (G : Hp) : List RowT → List (D × D) → Prop
  | nil : FzT K G [] []
  | cons {k : List Key} {b : Addr} {v : V} {vs : List RowT} {d : D} {ds : List (D × D)} : (∀ x ∈ k, ∃ i : Int, x = .inl i) → Kt G b (k.map kV) → Fz K G v d → FzT K G vs ds → FzT K G ((k, b, v) :: vs) ((tkD k, d) :: ds)
/-- the fields of an exception, in its own dict -/
inductive FzN (K : PySem.W.Frag) (G : Hp) : List (Str × V) → List (Str × D) → Prop
  | nil : FzN K G [] []
  | cons {f : Str} {v : V} {d : D} {vs : List (Str × V)} {ds : List (Str × D)} : Fz K G v d → FzN K G vs ds → FzN K G ((f, v) :: vs) ((f, d) :: ds)
end
theorem Same.rd {H H' : Hp} {a : Addr} {o : HO} (e : Same H H') (h : Rd H a o) : Rd H' a o := by
  rcases h with h | ⟨u, h⟩
  · exact .inl (e _ _ h)
  · exact .inr ⟨u, e _ _ h⟩
theorem Kt.mono {H H2 : Hp} {a : Addr} {xs : List V} (e : Same H H2) (h : Kt H a xs) : Kt H2 a xs := let ⟨o, x, y⟩ := h; ⟨o, e _ _ x, y⟩
theorem Same.tp {K : PySem.W.Frag} {H H' : Hp} {a : Addr} {xs : List V} (e : Same H H') (h : SqT K H a xs) : SqT K H' a xs := by
  rcases h with (h | ⟨o, h⟩) | h
  · exact .inl (.inl (e _ _ h))
  · exact .inl (.inr ⟨o, e _ _ h⟩)
  · exact .inr h
section
variable {K : PySem.W.Frag} {G G' : Hp}
theorem Fz.mono (s : Same G G') : ∀ {v : V} {d : D}, Fz K G v d → Fz K G' v d := fun h =>
  Fz.rec (motive_1 := fun v d _ => Fz K G' v d) (motive_2 := fun v d _ => FzA K G' v d) (motive_3 := fun v d _ => FzK K G' v d) (motive_4 := fun v d _ => FzT K G' v d) (motive_5 := fun v d _ => FzN K G' v d)
    .non .bl .int .str (fun h _ i => .lst (Same.rd s h) i) (fun h _ i => .tup (h.mono s) i) (fun h _ i => .dK (s _ _ h) i) (fun h _ i => .dT (s _ _ h) i) (fun h o hd hn _ i => .ex (s _ _ h) o (fun dd e => s _ _ (hd dd e)) hn i)
    .nil (fun _ _ a b => .cons a b) .nil (fun _ _ a b => .cons a b) .nil (fun hi hk _ _ a b => .cons hi (hk.mono s) a b) .nil (fun _ _ a b => .cons a b) h
end
/-! ### lists of data -/
section
variable {K : PySem.W.Frag} {G G' H H' : Hp}
theorem FzA.mono (s : Same G G') : ∀ {vs : List V} {ds : List D}, FzA K G vs ds → FzA K G' vs ds
  | _, _, .nil => .nil
  | _, _, .cons a b => .cons (a.mono s) (b.mono s)
theorem FzK.mono (s : Same G G') : ∀ {vs : List (Key × V)} {ds : List (D × D)}, FzK K G vs ds → FzK K G' vs ds
  | _, _, .nil => .nil
  | _, _, .cons a b => .cons (a.mono s) (b.mono s)
theorem FzT.mono (s : Same G G') : ∀ {vs : List RowT} {ds : List (D × D)}, FzT K G vs ds → FzT K G' vs ds
  | _, _, .nil => .nil
  | _, _, .cons hi hk a b => .cons hi (hk.mono s) (a.mono s) (b.mono s)
theorem FzN.mono (s : Same G G') : ∀ {vs : List (Str × V)} {ds : List (Str × D)}, FzN K G vs ds → FzN K G' vs ds
  | _, _, .nil => .nil
  | _, _, .cons a b => .cons (a.mono s) (b.mono s)
theorem FzA.length : ∀ {vs : List V} {ds : List D}, FzA K G vs ds → vs.length = ds.length
  | _, _, .nil => rfl
  | _, _, .cons _ b => by simp [b.length]
theorem FzA.get : ∀ {vs : List V} {ds : List D} {i : Nat} {d : D}, FzA K G vs ds → ds[i]? = some d → ∃ v, vs[i]? = some v ∧ Fz K G v d
  | _, _, _, _, .nil, e => by simp at e
  | _, _, 0, _, .cons a _, e => by simp at e; subst e; exact ⟨_, rfl, a⟩
  | _, _, i + 1, d, .cons _ b, e => by
    obtain ⟨v, h1, h2⟩ := FzA.get (i := i) (d := d) b (by simpa using e)
    exact ⟨v, by simpa using h1, h2⟩
theorem FzA.set : ∀ {vs : List V} {ds : List D} (i : Nat) {v : V} {d : D}, FzA K G vs ds → Fz K G v d → FzA K G (vs.set i v) (ds.set i d)
  | _, _, _, _, _, .nil, _ => .nil
  | _, _, 0, _, _, .cons _ b, h => .cons h b
  | _, _, i + 1, _, _, .cons a b, h => .cons a (b.set i h)
end

/-! ### modes, slots, places -/
/-- fz: frozen; own: a list or dict of this frame's own; lent: a caller's; lz: a caller's, frozen here -/
inductive Md where
  | fz | own | lent | lz
  deriving DecidableEq
abbrev Slot := Option (D × Md)
abbrev Rho := List Slot
/-- an exception: its class's name, its fields -/
structure Xc where
  cls : Str
  flds : List (Str × D)
/-- what an expression gives: a frozen value, a name's own list, a new list -/
inductive Pl where
  | val (d : D) | slot (i : Nat) | tmp (d : D)
inductive R (α : Type) where
  | ok (a : α) (ρ : Rho) | exc (x : Xc) (ρ : Rho) | bad
def Md.isFz : Md → Bool
  | .fz => true
  | .lz => true
  | _ => false
def look (p : Pl) (ρ : Rho) : Option D := match p with
  | .val d => some d
  | .tmp d => some d
  | .slot i => match ρ[i]? with
    | some (some (d, _)) => some d
    | _ => none
/-- the value is kept somewhere: a name's own list is frozen -/
def frz (p : Pl) (ρ : Rho) : Option (D × Rho) := match p with
  | .val d => some (d, ρ)
  | .tmp d => some (d, ρ)
  | .slot i => match ρ[i]? with
    | some (some (d, .own)) => some (d, ρ.set i (some (d, .fz)))
    | some (some (d, .lent)) => some (d, ρ.set i (some (d, .lz)))
    | some (some (d, _)) => some (d, ρ)
    | _ => none

/-! ### the state -/
section
variable (K : PySem.W.Frag) (G H B : Hp)
inductive Cont (a : Addr) : D → Prop
  | lst {xs : List V} {ds : List D} : H a = some (.lst xs) → FzA K G xs ds → Cont a (.list ds)
  | dK {kvs : List (Key × V)} {es : List (D × D)} : H a = some (.dK kvs) → FzK K G kvs es → Cont a (.dict es)
  | dT {kvs : List RowT} {es : List (D × D)} : H a = some (dtO a kvs) → FzT K G kvs es → Cont a (.dict ((.none, .none) :: es))
/-- a value that is looked at -/
def Vw (v : V) (d : D) : Prop := Fz K G v d ∨ ∃ a, v = .ref a ∧ Cont K G H a d
def SlotOk (v : V) : D × Md → Prop
  | (d, .fz) => Fz K G v d
  | (d, .lz) => Fz K G v d
  | (d, _) => ∃ a, v = .ref a ∧ G a = none ∧ B a = none ∧ Cont K G H a d
end
/-- L: the lent parameters' values; B: what stood at the entry but for what is lent; G: what is frozen -/
structure Rel (K : PySem.W.Frag) (L : L2.St) (B : Hp) (σ : L2.St) (ρ : Rho) (G H : Hp) : Prop where
  sub : Same G H
  base : Same B H
  len : ρ.length = σ.length
  slots : ∀ (i : Nat) (p : D × Md), ρ[i]? = some (some p) → ∃ v, σ[i]? = some (some v) ∧ SlotOk K G H B v p
  sep : ∀ (i j : Nat) (p q : D × Md) (v : V), i ≠ j → ρ[i]? = some (some p) → ρ[j]? = some (some q) → p.2.isFz = false → q.2.isFz = false → σ[i]? = some (some v) → σ[j]? ≠ some (some v)
  lent : ∀ (j : Nat) (v : V), L[j]? = some (some v) → σ[j]? = some (some v) ∧ ∃ (d : D) (m : Md), ρ[j]? = some (some (d, m)) ∧ (m = .lent ∨ m = .lz)
/-- G has grown, by what B doesn't hold -/
structure Ext (B G G' : Hp) : Prop where
  same : Same G G'
  new : ∀ b, G' b ≠ none → G b ≠ none ∨ B b = none ∨ ∃ vs, G' b = some (.tup vs)
theorem Ext.refl {B G : Hp} : Ext B G G := ⟨Same.refl _, fun _ h => .inl h⟩
theorem Ext.trans {B G G1 G2 : Hp} (a : Ext B G G1) (b : Ext B G1 G2) : Ext B G G2 :=
  ⟨a.same.trans b.same, fun x h => by
    rcases b.new x h with z | z | z
    · rcases a.new x z with w | w | ⟨vs, w⟩
      · exact .inl w
      · exact .inr (.inl w)
      · exact .inr (.inr ⟨vs, b.same _ _ w⟩)
    · exact .inr (.inl z)
    · exact .inr (.inr z)⟩
/-- what an expression gave -/
def PlOk (K : PySem.W.Frag) (B : Hp) (σ : L2.St) (ρ : Rho) (G H : Hp) (v : V) : Pl → Prop
  | .val d => Fz K G v d
  | .slot i => σ[i]? = some (some v)
  | .tmp d => ∃ a, v = .ref a ∧ G a = none ∧ B a = none ∧ Cont K G H a d ∧ ∀ (j : Nat) (p : D × Md), ρ[j]? = some (some p) → p.2.isFz = false → σ[j]? ≠ some (some v)
/-- .. where a new list is frozen at once -/
def PlFx (K : PySem.W.Frag) (σ : L2.St) (G : Hp) (v : V) : Pl → Prop
  | .val d => Fz K G v d
  | .slot i => σ[i]? = some (some v)
  | .tmp d => Fz K G v d
section
variable {K : PySem.W.Frag} {L : L2.St} {B G G' H H' : Hp} {σ : L2.St} {ρ : Rho} {v : V} {d : D} {a : Addr}
theorem Cont.mono (s : Same G G') (c : Cont K G H a d) : Cont K G' H a d := by
  cases c with
  | lst h x => exact .lst h (x.mono s)
  | dK h x => exact .dK h (x.mono s)
  | dT h x => exact .dT h (x.mono s)
theorem Cont.heap (c : Cont K G H a d) (h : ∀ o, H a = some o → H' a = some o) : Cont K G H' a d := by
  cases c with
  | lst e x => exact .lst (h _ e) x
  | dK e x => exact .dK (h _ e) x
  | dT e x => exact .dT (h _ e) x
theorem Cont.there (c : Cont K G H a d) : ∃ o, H a = some o := by
  cases c with
  | lst e x => exact ⟨_, e⟩
  | dK e x => exact ⟨_, e⟩
  | dT e x => exact ⟨_, e⟩
theorem Cont.frozen (c : Cont K G H a d) (s : Same G G') (h : G' a = H a) : Fz K G' (.ref a) d := by
  cases c with
  | lst e x => exact .lst (.inl (h.trans e)) (x.mono s)
  | dK e x => exact .dK (h.trans e) (x.mono s)
  | dT e x => exact .dT (h.trans e) (x.mono s)
theorem SlotOk.mono {p : D × Md} (e : Ext B G G') (hn : p.2.isFz = false → ∀ a, v = .ref a → G' a = none) (s : SlotOk K G H B v p) : SlotOk K G' H B v p := by
  obtain ⟨d, m⟩ := p
  cases m with
  | fz => exact Fz.mono e.same s
  | lz => exact Fz.mono e.same s
  | own =>
    obtain ⟨a, rfl, h1, h2, c⟩ := s
    exact ⟨a, rfl, hn rfl a rfl, h2, c.mono e.same⟩
  | lent =>
    obtain ⟨a, rfl, h1, h2, c⟩ := s
    exact ⟨a, rfl, hn rfl a rfl, h2, c.mono e.same⟩
theorem SlotOk.heap {p : D × Md} (h : p.2.isFz = false → ∀ a o, v = .ref a → H a = some o → H' a = some o) (s : SlotOk K G H B v p) : SlotOk K G H' B v p := by
  obtain ⟨d, m⟩ := p
  cases m with
  | fz => exact s
  | lz => exact s
  | own =>
    obtain ⟨a, rfl, h1, h2, c⟩ := s
    exact ⟨a, rfl, h1, h2, c.heap fun o e => h rfl a o rfl e⟩
  | lent =>
    obtain ⟨a, rfl, h1, h2, c⟩ := s
    exact ⟨a, rfl, h1, h2, c.heap fun o e => h rfl a o rfl e⟩
theorem SlotOk.own {p : D × Md} (h : p.2.isFz = false) (s : SlotOk K G H B v p) : ∃ a, v = .ref a ∧ G a = none ∧ B a = none ∧ Cont K G H a p.1 := by
  obtain ⟨d, m⟩ := p
  cases m with
  | fz => cases h
  | lz => cases h
  | own => exact s
  | lent => exact s
theorem SlotOk.fz {p : D × Md} (h : p.2.isFz = true) (s : SlotOk K G H B v p) : Fz K G v p.1 := by
  obtain ⟨d, m⟩ := p
  cases m with
  | fz => exact s
  | lz => exact s
  | own => cases h
  | lent => cases h
theorem SlotOk.vw {p : D × Md} (s : SlotOk K G H B v p) : Vw K G H v p.1 := by
  cases h : p.2.isFz with
  | true => exact .inl (s.fz h)
  | false =>
    obtain ⟨a, rfl, _, _, c⟩ := s.own h
    exact .inr ⟨a, rfl, c⟩
theorem Vw.of (h : Fz K G v d) : Vw K G H v d := .inl h
theorem Rel.gb (r : Rel K L B σ ρ G H) (e : Ext B G G') (s' : Same G' H') (b' : Same B H')
    (hg : ∀ (i : Nat) (p : D × Md) (a : Addr), ρ[i]? = some (some p) → p.2.isFz = false → σ[i]? = some (some (.ref a)) → G' a = none ∧ ∀ o, H a = some o → H' a = some o) : Rel K L B σ ρ G' H' where
  sub := s'
  base := b'
  len := r.len
  slots := fun i p h => by
    obtain ⟨v, h1, h2⟩ := r.slots i p h
    refine ⟨v, h1, (h2.mono e fun hf a ea => ?_).heap fun hf a o ea => ?_⟩
    · subst ea; exact (hg i p a h hf h1).1
    · subst ea; exact (hg i p a h hf h1).2 o
  sep := r.sep
  lent := r.lent
/-- a new object stands at p -/
theorem Same.upd_new {p : Addr} {o : HO} (h : H p = none) : Same H (upd H p o) := fun b u e => by rw [upd_ne (ne_of_none e h)]; exact e
theorem Rel.new (r : Rel K L B σ ρ G H) (s : Same H H') : Rel K L B σ ρ G H' :=
  r.gb .refl (r.sub.trans s) (r.base.trans s) fun i p a h hf hv => by
    obtain ⟨v, h1, h2⟩ := r.slots i p h
    rw [hv] at h1; cases h1
    obtain ⟨a', e, h3, h4, c⟩ := h2.own hf
    cases e
    exact ⟨h3, fun o e => s _ _ e⟩
/-- a thing that no name owns is frozen -/
theorem Rel.freeze (r : Rel K L B σ ρ G H) {o : HO} (hb : B a = none) (hg : G a = none) (ho : H a = some o) (hs : ∀ (j : Nat) (p : D × Md), ρ[j]? = some (some p) → p.2.isFz = false → σ[j]? ≠ some (some (.ref a))) :
    Rel K L B σ ρ (upd G a o) H ∧ Ext B G (upd G a o) := by
  have e : Ext B G (upd G a o) := ⟨Same.upd_new hg, fun b h => by
    by_cases hb' : b = a
    · subst hb'; exact .inr (.inl hb)
    · rw [upd_ne hb'] at h; exact .inl h⟩
  refine ⟨r.gb e (fun b u q => ?_) r.base fun i p a' h hf hv => ?_, e⟩
  · by_cases hb' : b = a
    · subst hb'; rw [upd_same] at q; cases q; exact ho
    · rw [upd_ne hb'] at q; exact r.sub b u q
  · obtain ⟨v, h1, h2⟩ := r.slots i p h
    rw [hv] at h1; cases h1
    obtain ⟨a2, e2, h3, h4, c⟩ := h2.own hf
    cases e2
    have : a' ≠ a := fun z => by subst z; exact hs i p h hf hv
    exact ⟨by rw [upd_ne this]; exact h3, fun o e => e⟩
theorem PlFx.mono {p : Pl} (s : Same G G') (h : PlFx K σ G v p) : PlFx K σ G' v p := by
  cases p with
  | val d => exact Fz.mono s h
  | tmp d => exact Fz.mono s h
  | slot i => exact h
theorem PlFx.look {p : Pl} (r : Rel K L B σ ρ G H) (h : PlFx K σ G v p) (e : look p ρ = some d) : Vw K G H v d := by
  cases p with
  | val x => cases e; exact .of h
  | tmp x => cases e; exact .of h
  | slot i =>
    unfold TN.look at e
    cases q : ρ[i]? with
    | none => simp [q] at e
    | some o =>
      cases o with
      | none => simp [q] at e
      | some p =>
        obtain ⟨d', m⟩ := p
        simp only [q] at e
        cases e
        obtain ⟨v', h1, h2⟩ := r.slots i _ q
        have h' : σ[i]? = some (some v) := h
        rw [h'] at h1; cases h1
        exact h2.vw
/-- the value is kept -/
theorem PlFx.frz {p : Pl} {ρ' : Rho} (r : Rel K L B σ ρ G H) (h : PlFx K σ G v p) (e : frz p ρ = some (d, ρ')) : ∃ G', Rel K L B σ ρ' G' H ∧ Ext B G G' ∧ Fz K G' v d := by
  cases p with
  | val x => cases e; exact ⟨G, r, .refl, h⟩
  | tmp x => cases e; exact ⟨G, r, .refl, h⟩
  | slot i =>
    have h' : σ[i]? = some (some v) := h
    unfold TN.frz at e
    have key : ∀ d0 m m', ρ[i]? = some (some (d0, m)) → m.isFz = false → m'.isFz = true → (m = .lent → m' = .lz) → (m = .own → m' = .fz) → ∃ G', Rel K L B σ (ρ.set i (some (d0, m'))) G' H ∧ Ext B G G' ∧ Fz K G' v d0 := by
      intro d0 m m' q hm hm' hl1 hl2
      obtain ⟨v', h1, h2⟩ := r.slots i _ q
      rw [h'] at h1; cases h1
      obtain ⟨a, rfl, h3, h4, c⟩ := h2.own hm
      obtain ⟨o, ho⟩ := c.there
      have ee : Ext B G (upd G a o) := ⟨Same.upd_new h3, fun b h => by
        by_cases hb' : b = a
        · subst hb'; exact .inr (.inl h4)
        · rw [upd_ne hb'] at h; exact .inl h⟩
      have fz : Fz K (upd G a o) (.ref a) d0 := c.frozen ee.same (by rw [upd_same, ho])
      have hlt : i < ρ.length := (List.getElem?_eq_some_iff.mp q).1
      refine ⟨upd G a o, ⟨fun b u q' => ?_, r.base, by simpa using r.len, fun j p hp => ?_, fun j k p p' w hjk hp hp' hf hf' hw => ?_, fun j w hw => ?_⟩, ee, fz⟩
      · by_cases hb' : b = a
        · subst hb'; rw [upd_same] at q'; cases q'; exact ho
        · rw [upd_ne hb'] at q'; exact r.sub b u q'
      · by_cases hj : j = i
        · subst hj
          rw [List.getElem?_set_self hlt] at hp
          cases hp
          refine ⟨_, h', ?_⟩
          cases m' with
          | fz => exact fz
          | lz => exact fz
          | own => cases hm'
          | lent => cases hm'
        · rw [List.getElem?_set_ne (Ne.symm hj)] at hp
          obtain ⟨w, w1, w2⟩ := r.slots j p hp
          refine ⟨w, w1, w2.mono ee fun hf a' ea => ?_⟩
          subst ea
          have : a' ≠ a := fun z => by subst z; exact r.sep i j _ p _ (Ne.symm hj) q hp hm hf h' w1
          obtain ⟨a2, e2, h5, _, _⟩ := w2.own hf
          cases e2
          rw [upd_ne this]; exact h5
      · have hj : j ≠ i := fun z => by
          subst z; rw [List.getElem?_set_self hlt] at hp; cases hp
          rw [hm'] at hf; cases hf
        have hk : k ≠ i := fun z => by
          subst z; rw [List.getElem?_set_self hlt] at hp'; cases hp'
          rw [hm'] at hf'; cases hf'
        rw [List.getElem?_set_ne (Ne.symm hj)] at hp
        rw [List.getElem?_set_ne (Ne.symm hk)] at hp'
        exact r.sep j k p p' w hjk hp hp' hf hf' hw
      · obtain ⟨w1, d1, m1, w2, w3⟩ := r.lent j w hw
        by_cases hj : j = i
        · subst hj
          rw [q] at w2; cases w2
          refine ⟨w1, d0, m', List.getElem?_set_self hlt, ?_⟩
          rcases w3 with rfl | rfl
          · exact .inr (hl1 rfl)
          · cases hm
        · exact ⟨w1, d1, m1, by rw [List.getElem?_set_ne (Ne.symm hj)]; exact w2, w3⟩
    cases q : ρ[i]? with
    | none => simp [q] at e
    | some o =>
      cases o with
      | none => simp [q] at e
      | some p =>
        obtain ⟨d', m⟩ := p
        cases m with
        | own =>
          simp only [q, Option.some.injEq, Prod.mk.injEq] at e
          obtain ⟨rfl, rfl⟩ := e
          exact key _ _ _ q rfl rfl (fun z => by cases z) (fun _ => rfl)
        | lent =>
          simp only [q, Option.some.injEq, Prod.mk.injEq] at e
          obtain ⟨rfl, rfl⟩ := e
          exact key _ _ _ q rfl rfl (fun _ => rfl) (fun z => by cases z)
        | fz =>
          simp only [q, Option.some.injEq, Prod.mk.injEq] at e
          obtain ⟨rfl, rfl⟩ := e
          obtain ⟨v', h1, h2⟩ := r.slots i _ q
          rw [h'] at h1; cases h1
          exact ⟨G, r, .refl, h2⟩
        | lz =>
          simp only [q, Option.some.injEq, Prod.mk.injEq] at e
          obtain ⟨rfl, rfl⟩ := e
          obtain ⟨v', h1, h2⟩ := r.slots i _ q
          rw [h'] at h1; cases h1
          exact ⟨G, r, .refl, h2⟩
end
end TN
namespace TN
open PySem PySem.Spec PyProof.Rows L2

/-! ### tuples made where it is known that they have no dict of their own -/
section
variable {X : Cx}
/-- t.m(..), t a tuple known to have no dict of its own -/
def KtV (K : PySem.W.Frag) (x : V) (H : Hp) : Prop := ∃ (p : Addr) (o : Obj) (xs : List V), x = .ref p ∧ H p = some (.frz o (.tup xs)) ∧ o.dict = none
theorem KtV.is {pins : List (Addr × Obj)} {σ : L2.St} {H : Hp} {s : Shared} {x : V} {v : Value} (I : Inv X pins σ H s) (r : RelV x v) (ty : KtV X.K x H) :
    s.TypeIs v "tuple" ∧ ∀ a, v = .ref a → ∃ ob, s.heap.get? a = some ob ∧ ob.dict = none := by
  obtain ⟨p, o, xs, rfl, hp, hd⟩ := ty
  cases r
  obtain ⟨ho, _, its, _, tp⟩ := I.hok p _ hp
  refine ⟨tp.typeIs, fun a e => ?_⟩
  cases e
  exact ⟨o, ho, hd⟩
end
end TN
namespace TN
open PySem PySem.Spec PyProof.Rows L2

/-! ### dicts whose keys are tuples of whole numbers, the keys' addresses known -/
theorem PRT.length {rs : List RowT} {xs : List (List Key × Addr × Value)} (r : PRT rs xs) : rs.length = xs.length := Paired.length r
/-- the values by the keys -/
def rowsV (rs : List RowT) : List (List Key × V) := rs.map fun r => (r.1, r.2.2)
theorem PRT.val {rs : List RowT} {xs : List (List Key × Addr × Value)} (r : PRT rs xs) (k : List Key) : RelO (valV (rowsV rs) k) ((atKey xs k).map (·.2)) := by
  induction r with
  | nil => exact True.intro
  | @cons p q ps qs h t ih =>
    obtain ⟨h1, _, h2⟩ := h
    show RelO (valV ((p.1, p.2.2) :: rowsV ps) k) _
    by_cases e : p.1 = k
    · have e' : q.1 = k := h1.symm.trans e
      have b : atKey (q :: qs) k = some q.2 := by simp [atKey, List.find?_cons, e']
      rw [valV_pos e, b]; exact h2
    · have e' : ¬ q.1 = k := fun z => e (h1.trans z)
      have b : atKey (q :: qs) k = atKey qs k := by simp [atKey, List.find?_cons, e']
      rw [valV_neg e, b]; exact ih
/-- what the dict at a holds at the key y -/
def DGX (H : Hp) (a : Addr) (y : V) (r : Option V) : Prop := ∃ rs k b, H a = some (dtO a rs) ∧ (∀ r ∈ rs, Kt H r.2.1 (r.1.map kV)) ∧ y = .ref b ∧ Kt H b (k.map kV) ∧ r = valV (rowsV rs) k
def DG (H : Hp) (a : Addr) (y : V) (r : Option V) : Prop := DGet H a y r ∨ DGX H a y r
section
variable {X : Cx} {pins : List (Addr × Obj)} {σ : L2.St} {H : Hp} {s : Shared} {a : Addr} {y v : V} {u r : Value} {o : Option V} {A : Around} {E : Value → Shared → Prop}
end
/-! d.get(y, z) -/
end TN
namespace TN
open PySem PySem.Spec PyProof.Rows L2

/-! ### what a computation gave -/
def XcOk (X : Cx) (B : Hp) (G H : Hp) (x : Xc) (cls : Value) (d : Option Addr) : Prop :=
  ∃ C : Addr, X.mg x.cls = some (.ref C) ∧ cls = .ref C ∧ ((x.flds = [] ∧ d = none) ∨ ∃ (dd : Addr) (fs : List (Str × V)), d = some dd ∧ H dd = some (.xd fs) ∧ B dd = none ∧ FzN X.K G fs x.flds)
def Got {α β : Type} (X : Cx) (L : L2.St) (W : WX) (σ : L2.St) (G B : Hp) (P : α → Rho → Hp → Hp → β → Prop) (r : R α) (Q : β → Hp → Prop) : Prop := match r with
  | .ok a ρ' => ∀ (b : β) (H' G' : Hp), Rel X.K L B σ ρ' G' H' → Ext B G G' → P a ρ' G' H' b → Q b H'
  | .exc x ρ' => ∀ (cls : Value) (d : Option Addr) (H' G' : Hp), Rel X.K L B σ ρ' G' H' → Ext B G G' → XcOk X B G' H' x cls d → W cls d σ H'
  | .bad => False
abbrev GotP (X : Cx) (L : L2.St) (W : WX) (σ : L2.St) (G B : Hp) (r : R Pl) (Q : VK) : Prop := Got X L W σ G B (fun p ρ' G' H' v => PlOk X.K B σ ρ' G' H' v p) r Q
inductive PlA (K : PySem.W.Frag) (σ : L2.St) (G : Hp) : List V → List Pl → Prop
  | nil : PlA K σ G [] []
  | cons {v : V} {vs : List V} {p : Pl} {ps : List Pl} : PlFx K σ G v p → PlA K σ G vs ps → PlA K σ G (v :: vs) (p :: ps)
abbrev CE := Rho → R Pl
abbrev CB := Rho → R Bool
abbrev CA := Rho → R (List Pl)
section
variable {X : Cx} {L : L2.St} {W : WX} {σ : L2.St} {G G1 B H : Hp}
theorem Got.mono {α β : Type} {P : α → Rho → Hp → Hp → β → Prop} {r : R α} {Q Q' : β → Hp → Prop} (h : Got X L W σ G B P r Q) (w : ∀ b H', Q b H' → Q' b H') : Got X L W σ G B P r Q' := by
  cases r with
  | ok a ρ' => exact fun b H' G' rel ext p => w _ _ (h b H' G' rel ext p)
  | exc x ρ' => exact h
  | bad => exact h
theorem PlA.mono {K : PySem.W.Frag} (s : Same G G1) : ∀ {vs : List V} {ps : List Pl}, PlA K σ G vs ps → PlA K σ G1 vs ps
  | _, _, .nil => .nil
  | _, _, .cons a b => .cons (a.mono s) (b.mono s)
end

/-! ### new values -/
/-- what a pure operation leaves: a frozen value, a new tuple, a new list or dict -/
inductive Post (K : PySem.W.Frag) (G H : Hp) : V → Hp → Pl → Prop
  | fz {v : V} {d : D} : Fz K G v d → Post K G H v H (.val d)
  | tup {p : Addr} {vs : List V} {ds : List D} {o : Obj} : H p = none → o.dict = none → FzA K G vs ds → Post K G H (.ref p) (upd H p (.frz o (.tup vs))) (.val (.tuple ds))
  | tmp {p : Addr} {o : HO} {d : D} : H p = none → Cont K G (upd H p o) p d → Post K G H (.ref p) (upd H p o) (.tmp d)
section
variable {X : Cx} {L : L2.St} {W : WX} {σ : L2.St} {ρ : Rho} {G G1 B H H' : Hp} {v : V} {p : Pl}
theorem Post.ok (h : Post X.K G H v H' p) (r : Rel X.K L B σ ρ G H) : ∃ G', Rel X.K L B σ ρ G' H' ∧ Ext B G G' ∧ PlOk X.K B σ ρ G' H' v p := by
  have key : ∀ {q : Addr} {o : HO}, H q = none → Rel X.K L B σ ρ G (upd H q o) ∧ B q = none ∧ G q = none ∧ ∀ (j : Nat) (p : D × Md), ρ[j]? = some (some p) → p.2.isFz = false → σ[j]? ≠ some (some (.ref q)) := by
    intro q o hq
    refine ⟨r.new (Same.upd_new hq), r.base.free hq, r.sub.free hq, fun j p hp hf hv => ?_⟩
    obtain ⟨w, h1, h2⟩ := r.slots j p hp
    rw [hv] at h1; cases h1
    obtain ⟨a, e, _, _, c⟩ := h2.own hf
    cases e
    obtain ⟨o', ho⟩ := c.there
    rw [hq] at ho; cases ho
  cases h with
  | fz h => exact ⟨G, r, .refl, h⟩
  | @tup q vs ds o hq hd x =>
    obtain ⟨r1, b1, g1, s1⟩ := key (o := .frz o (.tup vs)) hq
    obtain ⟨r2, e2⟩ := r1.freeze b1 g1 upd_same s1
    exact ⟨_, r2, e2, Fz.tup ⟨o, upd_same, hd⟩ (x.mono e2.same)⟩
  | @tmp q o d hq c =>
    obtain ⟨r1, b1, g1, s1⟩ := key (o := o) hq
    exact ⟨G, r1, .refl, q, rfl, g1, b1, c, s1⟩
theorem Got.done {Q : VK} (r : Rel X.K L B σ ρ G H) (h : GotP X L W σ G B (.ok p ρ) Q) (q : Post X.K G H v H' p) : Q v H' := by
  obtain ⟨G', r', e, ok⟩ := q.ok r
  exact h v H' G' r' e ok
end
/-! ### names, constants -/
section
variable {X : Cx} {e a b : Expr} {ca cb : CE} {pos : Pos}
end

/-! ### operations of one and two values -/
section
variable {X : Cx} {e a b : Expr} {ca cb : CE} {pos : Pos} {f : D → D → Option Pl} {g : D → Option Pl} {r : R2} {r1 : V → Hp → VK → Prop}
theorem Vw.bool {K : PySem.W.Frag} {G H : Hp} {v : V} {b : Bool} (h : Vw K G H v (.bool b)) : v = .bl b := by
  rcases h with h | ⟨a, _, h⟩
  · cases h; rfl
  · cases h
theorem Vw.int {K : PySem.W.Frag} {G H : Hp} {v : V} {b : Int} (h : Vw K G H v (.int b)) : v = .int b := by
  rcases h with h | ⟨a, _, h⟩
  · cases h; rfl
  · cases h
theorem Vw.str {K : PySem.W.Frag} {G H : Hp} {v : V} {b : Str} (h : Vw K G H v (.str b)) : v = .str b := by
  rcases h with h | ⟨a, _, h⟩
  · cases h; rfl
  · cases h
/-! ### and, or, not -/
variable {ba bb : CB} {rest : List Expr}
/-! ### argument lists, displays -/
variable {es : List Expr} {cr : CA}
def lookA (ps : List Pl) (ρ : Rho) : Option (List D) := match ps with
  | [] => some []
  | p :: ps => match look p ρ, lookA ps ρ with
    | some d, some ds => some (d :: ds)
    | _, _ => none
/-! ### built-ins called -/
inductive VwA (K : PySem.W.Frag) (G H : Hp) : List V → List D → Prop
  | nil : VwA K G H [] []
  | cons {v : V} {vs : List V} {d : D} {ds : List D} : Vw K G H v d → VwA K G H vs ds → VwA K G H (v :: vs) (d :: ds)
theorem PlA.look {K : PySem.W.Frag} {L : L2.St} {B H G : Hp} {σ : L2.St} {ρ : Rho} (r : Rel K L B σ ρ G H) : ∀ {ps : List Pl} {vs : List V} {ds : List D}, PlA K σ G vs ps → lookA ps ρ = some ds → VwA K G H vs ds
  | [], _, _, .nil, e => by cases e; exact .nil
  | p :: ps, _, ds, .cons a b, e => by
    unfold lookA at e
    cases e1 : TN.look p ρ with
    | none => simp [e1] at e
    | some d =>
      cases e2 : lookA ps ρ with
      | none => simp [e1, e2] at e
      | some ds' =>
        simp only [e1, e2, Option.some.injEq] at e
        subst e
        exact .cons (a.look r e1) (PlA.look r b e2)
variable {rc : List V → Hp → VK → Prop} {fc : List D → Option Pl} {x : Str} {p : Pos} {id T : String}
end
end TN
namespace TN
open PySem PySem.Spec PyProof.Rows L2

/-! ### storing -/
section
variable {K : PySem.W.Frag} {L : L2.St} {B G H H' : Hp} {σ : L2.St} {ρ : Rho} {v : V} {d : D} {i : Nat}
end
/-! ### statements -/
inductive RS where
  | nx (ρ : Rho) | ret (d : D) (fr : Bool) (ρ : Rho) | exc (x : Xc) (ρ : Rho) | bad
abbrev CS := Rho → RS
section
variable {X : Cx} {L : L2.St} {W : WX} {G G1 B : Hp}
end
section
variable {X : Cx} {st : Stmt} {sts : List Stmt} {a b : CS} {e : Expr} {c : CE} {t : CB} {pos pos' : Pos}
/-! ### targets -/
/-- vs: the names that may change -/
def Only (vs : List Nat) (σ σ' : L2.St) : Prop := σ'.length = σ.length ∧ ∀ i, i ∉ vs → σ'[i]? = σ[i]?
theorem Only.trans {vs ws : List Nat} {σ σ1 σ2 : L2.St} (a : Only vs σ σ1) (b : Only ws σ1 σ2) : Only (vs ++ ws) σ σ2 :=
  ⟨b.1.trans a.1, fun i h => by
    simp only [List.mem_append, not_or] at h
    exact (b.2 i h.2).trans (a.2 i h.1)⟩
variable {es : List Expr} {g : D → Rho → Option Rho} {gs : List D → Rho → Option Rho} {vs ws : List Nat}
/-! ### what is walked -/
abbrev CI := Rho → R (List D)
variable {tg : Expr} {ci : CI}
end
end TN
namespace TN
open PySem PySem.Spec PyProof.Rows L2

/-! ### defs -/
inductive FR where
  | ok (d : D) (fr : Bool) (outs : List Slot) | exc (x : Xc) (outs : List Slot) | bad
/-- a def's meaning: its arguments (frozen, or lent), what it gives -/
abbrev FM := List (D × Md) → FR
section
variable {P : Program} {w : World} {K : PySem.W.Frag} {mg : Str → Option Value} {base : Heap} {x qual : Str} {params : Arguments} {body : List Stmt} {scope : Scope} {f : Addr} {fd : FuncData}
end

/-! ### calls -/
theorem PlA.get {K : PySem.W.Frag} {σ : L2.St} {G : Hp} : ∀ {vs : List V} {ps : List Pl} {i : Nat} {p : Pl}, PlA K σ G vs ps → ps[i]? = some p → ∃ v, vs[i]? = some v ∧ PlFx K σ G v p
  | _, _, _, _, .nil, e => by simp at e
  | _, _, 0, _, .cons a _, e => by simp at e; subst e; exact ⟨_, rfl, a⟩
  | _, _, i + 1, p, .cons _ b, e => by
    obtain ⟨v, h1, h2⟩ := PlA.get (i := i) b (by simpa using e)
    exact ⟨v, by simpa using h1, h2⟩
theorem PlA.length {K : PySem.W.Frag} {σ : L2.St} {G : Hp} : ∀ {vs : List V} {ps : List Pl}, PlA K σ G vs ps → vs.length = ps.length
  | _, _, .nil => rfl
  | _, _, .cons _ b => by simp [b.length]
section
variable {K : PySem.W.Frag} {L : L2.St} {B G H : Hp} {σ : L2.St} {ρ : Rho} {ps : List Pl} {vs : List V} {as : List (D × Md)}
end
section
variable {X : Cx} {k n : Nat} {f : Addr} {fd : FuncData} {pn : List Str} {M : FM} {x : Str} {p pos : Pos} {e : Expr} {es : List Expr} {cr : CA}
end
/-! ### a law's end -/
end TN
namespace TN
open PySem PySem.Spec PyProof.Rows L2

/-! ### list comprehensions -/
section
variable {K : PySem.W.Frag} {L : L2.St} {B G G1 G2 H H1 : Hp} {σ : L2.St} {ρ ρ1 ρ2 : Rho} {vs : List Nat} {D0 : Addr} {v : V}
end
section
variable {X : Cx} {elt tg iter : Expr} {ifs : List Expr} {scope : Scope} {own : List (Str × Nat)} {pos : Pos} {ci : CI} {g : D → Rho → Option Rho} {t : CB} {e : CE}
variable {ws : List Nat} {y : Str} {py spos : Pos}
end
end TN
namespace TN
open PySem PySem.Spec PyProof.Rows L2

/-! ### keys, dicts -/
def ckOf : D → Option Key
  | .int i => some (.inl i)
  | .str s => some (.inr s)
  | _ => none
theorem ckOf_keyD (k : Key) : ckOf (keyD k) = some k := by cases k <;> rfl
def keysOf : List D → Option (List Key)
  | [] => some []
  | d :: ds => match ckOf d, keysOf ds with
    | some (.inl i), some ks => some (.inl i :: ks)
    | _, _ => none
theorem keysOf_keyD : ∀ {ks : List Key}, (∀ x ∈ ks, ∃ i : Int, x = .inl i) → keysOf (ks.map keyD) = some ks
  | [], _ => rfl
  | k :: ks, h => by
    obtain ⟨i, rfl⟩ := h k (List.mem_cons_self ..)
    have := keysOf_keyD (ks := ks) fun x hx => h x (List.mem_cons_of_mem _ hx)
    simp only [List.map_cons, keysOf, ckOf_keyD, this]
theorem keysOf_cons {d : D} {ds : List D} {ks : List Key} (h : keysOf (d :: ds) = some ks) : ∃ (i : Int) (ks' : List Key), ckOf d = some (.inl i) ∧ keysOf ds = some ks' ∧ ks = .inl i :: ks' := by
  unfold keysOf at h
  split at h
  · rename_i i ks' e1 e2
    cases h
    exact ⟨i, ks', e1, e2, rfl⟩
  · cases h
def tkOf : D → Option (List Key)
  | .tuple ds => keysOf ds
  | _ => none
theorem tkOf_tkD {ks : List Key} (h : ∀ x ∈ ks, ∃ i : Int, x = .inl i) : tkOf (tkD ks) = some ks := keysOf_keyD h
theorem Fz.key {K : PySem.W.Frag} {G : Hp} {v : V} {d : D} {k : Key} (h : Fz K G v d) (e : ckOf d = some k) : v = kV k := by
  cases h <;> simp only [ckOf, Option.some.injEq] at e <;> first | (cases e; done) | (subst e; rfl)
theorem FzA.keysV {K : PySem.W.Frag} {G : Hp} : ∀ {vs : List V} {ds : List D} {ks : List Key}, FzA K G vs ds → keysOf ds = some ks → vs = ks.map kV
  | _, _, _, .nil, e => by cases e; rfl
  | _, _, ks, .cons (d := d) (ds := ds) a b, e => by
    obtain ⟨i, ks', e1, e2, rfl⟩ := keysOf_cons e
    rw [a.key e1, b.keysV e2]; rfl
theorem Fz.tkey {K : PySem.W.Frag} {G : Hp} {v : V} {d : D} {ks : List Key} (h : Fz K G v d) (e : tkOf d = some ks) : ∃ b, v = .ref b ∧ Kt G b (ks.map kV) := by
  cases h <;> simp only [tkOf] at e <;> try (cases e; done)
  rename_i h1 h2
  rw [h2.keysV e] at h1
  exact ⟨_, rfl, h1⟩
theorem Vw.key {K : PySem.W.Frag} {G H : Hp} {v : V} {d : D} {k : Key} (h : Vw K G H v d) (e : ckOf d = some k) : v = kV k := by
  rcases h with h | ⟨a, _, h⟩
  · exact h.key e
  · cases h <;> cases e
theorem Vw.tkey {K : PySem.W.Frag} {G H : Hp} {v : V} {d : D} {ks : List Key} (s : Same G H) (h : Vw K G H v d) (e : tkOf d = some ks) : ∃ b, v = .ref b ∧ Kt H b (ks.map kV) := by
  rcases h with h | ⟨a, _, h⟩
  · obtain ⟨b, e1, e2⟩ := h.tkey e
    exact ⟨b, e1, e2.mono s⟩
  · cases h <;> cases e

def lookK : List (D × D) → Key → Option D
  | [], _ => none
  | (kd, v) :: es, k => if ckOf kd = some k then some v else lookK es k
section
variable {K : PySem.W.Frag} {G : Hp}
theorem FzK.look (k : Key) : ∀ {kvs : List (Key × V)} {es : List (D × D)}, FzK K G kvs es → (valV kvs k = none ∧ lookK es k = none) ∨ ∃ v d, valV kvs k = some v ∧ lookK es k = some d ∧ Fz K G v d
  | _, _, .nil => .inl ⟨rfl, rfl⟩
  | _, _, .cons (k := k') (v := v) (d := d) a b => by
    by_cases h : k' = k
    · subst h
      refine .inr ⟨v, d, valV_pos rfl, ?_, a⟩
      unfold lookK
      rw [if_pos (ckOf_keyD _)]
    · have h2 : ¬ ckOf (keyD k') = some k := fun z => by
        rw [ckOf_keyD] at z
        exact h (Option.some.inj z)
      rcases FzK.look k b with ⟨z1, z2⟩ | ⟨w, e, z1, z2, z3⟩
      · exact .inl ⟨(valV_neg h).trans z1, by unfold lookK; rw [if_neg h2]; exact z2⟩
      · exact .inr ⟨w, e, (valV_neg h).trans z1, by unfold lookK; rw [if_neg h2]; exact z2, z3⟩
theorem FzK.length : ∀ {kvs : List (Key × V)} {es : List (D × D)}, FzK K G kvs es → kvs.length = es.length
  | _, _, .nil => rfl
  | _, _, .cons _ b => by simp [b.length]
theorem FzK.keys : ∀ {kvs : List (Key × V)} {es : List (D × D)}, FzK K G kvs es → es.map (·.1) = kvs.map fun p => keyD p.1
  | _, _, .nil => rfl
  | _, _, .cons _ b => by simp [b.keys]
end

def lookT : List (D × D) → List Key → Option D
  | [], _ => none
  | (kd, v) :: es, k => if tkOf kd = some k then some v else lookT es k
section
variable {K : PySem.W.Frag} {G : Hp}
theorem FzT.look (k : List Key) : ∀ {kvs : List RowT} {es : List (D × D)}, FzT K G kvs es → (valV (rowsV kvs) k = none ∧ lookT es k = none) ∨ ∃ v d, valV (rowsV kvs) k = some v ∧ lookT es k = some d ∧ Fz K G v d
  | _, _, .nil => .inl ⟨rfl, rfl⟩
  | _, _, .cons (k := k') (b := b') (v := v) (vs := vs) (d := d) hi hk a b => by
    have er : rowsV ((k', b', v) :: vs) = (k', v) :: rowsV vs := rfl
    rw [er]
    by_cases h : k' = k
    · subst h
      refine .inr ⟨v, d, valV_pos rfl, ?_, a⟩
      unfold lookT
      rw [if_pos (tkOf_tkD hi)]
    · have h2 : ¬ tkOf (tkD k') = some k := fun z => by
        rw [tkOf_tkD hi] at z
        exact h (Option.some.inj z)
      rcases FzT.look k b with ⟨z1, z2⟩ | ⟨w, e, z1, z2, z3⟩
      · exact .inl ⟨(valV_neg h).trans z1, by unfold lookT; rw [if_neg h2]; exact z2⟩
      · exact .inr ⟨w, e, (valV_neg h).trans z1, by unfold lookT; rw [if_neg h2]; exact z2, z3⟩
theorem FzT.length : ∀ {kvs : List RowT} {es : List (D × D)}, FzT K G kvs es → kvs.length = es.length
  | _, _, .nil => rfl
  | _, _, .cons _ _ _ b => by simp [b.length]
theorem FzT.kt : ∀ {kvs : List RowT} {es : List (D × D)}, FzT K G kvs es → ∀ r ∈ kvs, Kt G r.2.1 (r.1.map kV)
  | _, _, .nil, r, hr => by cases hr
  | _, _, .cons _ hk _ b, r, hr => by
    rcases List.mem_cons.mp hr with z | z
    · subst z; exact hk
    · exact b.kt r z
end

/-! ### what is looked at is a dict -/
theorem isE_no {es : List (D × D)} (h : ∀ (x : D) (r : List (D × D)), es = (.bool true, x) :: r → False) : isE es = false := by
  unfold isE
  split
  · exact (h _ _ rfl).elim
  · rfl
theorem Vw.dict {K : PySem.W.Frag} {G H : Hp} {v : V} {es : List (D × D)} (s : Same G H) (hE : isE es = false) (h : Vw K G H v (.dict es)) :
    (∃ a kvs, v = .ref a ∧ H a = some (.dK kvs) ∧ FzK K G kvs es) ∨ ∃ a kvs es', v = .ref a ∧ H a = some (dtO a kvs) ∧ FzT K G kvs es' ∧ es = (.none, .none) :: es' := by
  rcases h with h | ⟨a, rfl, h⟩
  · cases h with
    | dK e x => exact .inl ⟨_, _, rfl, s _ _ e, x⟩
    | dT e x => exact .inr ⟨_, _, _, rfl, s _ _ e, x, rfl⟩
    | ex => cases hE
  · cases h with
    | dK e x => exact .inl ⟨_, _, rfl, e, x⟩
    | dT e x => exact .inr ⟨_, _, _, rfl, e, x, rfl⟩
theorem FzK.nomark {K : PySem.W.Frag} {G : Hp} {kvs : List (Key × V)} {es : List (D × D)} {v : D} (h : FzK K G kvs ((.none, v) :: es)) : False := by
  have e := h.keys
  cases kvs with
  | nil => simp at e
  | cons p r =>
    obtain ⟨k, w⟩ := p
    simp only [List.map_cons, List.cons.injEq] at e
    cases k <;> cases e.1
/-- d[k], as far as it is there -/
def dGet (es : List (D × D)) (y : D) : Option (Option D) := match es with
  | (.bool true, _) :: _ => none
  | (.none, _) :: es => match tkOf y with
    | some k => some (lookT es k)
    | none => none
  | es => match ckOf y with
    | some k => some (lookK es k)
    | none => none
theorem Vw.get {K : PySem.W.Frag} {G H : Hp} {v y : V} {es : List (D × D)} {dy : D} {o : Option D} (s : Same G H) (h : Vw K G H v (.dict es)) (hy : Vw K G H y dy) (e : dGet es dy = some o) :
    ∃ a ov, v = .ref a ∧ DG H a y ov ∧ ((ov = none ∧ o = none) ∨ ∃ w d, ov = some w ∧ o = some d ∧ Fz K G w d) := by
  have hE : isE es = false := isE_no fun x r z => by subst z; cases e
  rcases h.dict s hE with ⟨a, kvs, rfl, e1, f⟩ | ⟨a, kvs, es', rfl, e1, f, rfl⟩
  · unfold dGet at e
    split at e
    · cases e
    · exact f.nomark.elim
    · cases q : ckOf dy with
      | none => rw [q] at e; cases e
      | some k =>
        rw [q] at e; cases e
        refine ⟨a, valV kvs k, rfl, .inl (.inl ⟨kvs, k, .inl e1, hy.key q, rfl⟩), ?_⟩
        rcases f.look k with ⟨z1, z2⟩ | ⟨w, d, z1, z2, z3⟩
        · exact .inl ⟨z1, z2⟩
        · exact .inr ⟨w, d, z1, z2, z3⟩
  · unfold dGet at e
    simp only at e
    cases q : tkOf dy with
    | none => rw [q] at e; cases e
    | some k =>
      rw [q] at e; cases e
      obtain ⟨b, rfl, hb⟩ := hy.tkey s q
      refine ⟨a, valV (rowsV kvs) k, rfl, .inr ⟨kvs, k, b, e1, fun r hr => (f.kt r hr).mono s, rfl, hb, rfl⟩, ?_⟩
      rcases f.look k with ⟨z1, z2⟩ | ⟨w, d, z1, z2, z3⟩
      · exact .inl ⟨z1, z2⟩
      · exact .inr ⟨w, d, z1, z2, z3⟩
/-! ### d[k] as an item -/
/-! ### {} -/
section
variable {X : Cx} {pos : Pos}
end
end TN
namespace TN
open PySem PySem.Spec PyProof.Rows L2

/-! ### + - * // % ** -/
section
variable {X : Cx} {pins : List (Addr × Obj)} {σ : L2.St} {H : Hp} {s : Shared} {l b : Addr} {xs ys zs : List V}
end
section
variable {X : Cx}
/-! ### comparisons -/
/-! ### items, slices -/
end
end TN
namespace PySem.W
open PySem PySem.Spec PySem.Calls PyProof.Rows
section
variable {prog : Program} {w : World} {A : Around} {E : Value → Shared → Prop} {s : Shared} {K : Frag} {x D : Addr} {ox : Obj}
end
end PySem.W
namespace TN
open PySem PySem.Spec PyProof.Rows L2
section
variable {X : Cx}
/-! ### in, not in -/
/-! ### chains: a op b op c -/
/-! ### isinstance -/
/-! ### len, abs, max, min, int, sum, list, tuple, str -/
theorem VwA.one {K : PySem.W.Frag} {G H : Hp} {xs : List V} {d : D} (h : VwA K G H xs [d]) : ∃ v, xs = [v] ∧ Vw K G H v d := by
  cases h with
  | cons a b => cases b; exact ⟨_, rfl, a⟩
theorem VwA.len {K : PySem.W.Frag} {G H : Hp} : ∀ {xs : List V} {ds : List D}, VwA K G H xs ds → xs.length = ds.length
  | _, _, .nil => rfl
  | _, _, .cons _ b => by simp [b.len]
end
end TN
namespace TN
open PySem PySem.Spec PyProof.Rows L2

/-! ### tuples that stand are frozen -/
section
variable {X : Cx} {es : List Expr} {cr : CA} {rc : List V → Hp → VK → Prop} {fc : List D → Option Pl} {x : Str} {p : Pos} {T : String} {e : Expr} {pos : Pos}
end
/-! ### list(d) -/
end TN
namespace TN
open PySem PySem.Spec PyProof.Rows L2

/-! ### sum, min, max of ints in a list or tuple -/
section
variable {prog : Program} {w : World} {A : Around} {E : Value → Shared → Prop} {s : Shared} {l : Addr} {its : List Value} {ns : List Int} {Q : Value → Shared → Prop}
end
section
variable {X : Cx} {k : Nat}
/-! ### all -/
end
end TN
namespace TN
open PySem PySem.Spec PyProof.Rows L2

/-! ### sorted(list) -/
abbrev dLe : D → D → Bool := PySem.W.dataLe false id
theorem FzA.zip {K : PySem.W.Frag} {G : Hp} : ∀ {xs : List V} {ds : List D}, FzA K G xs ds → (∀ b ∈ xs.zip ds, Fz K G b.1 b.2) ∧ (xs.zip ds).map Prod.fst = xs ∧ (xs.zip ds).map Prod.snd = ds
  | _, _, .nil => ⟨fun b hb => by simp at hb, rfl, rfl⟩
  | _, _, .cons a r => by
    obtain ⟨h1, h2, h3⟩ := r.zip
    refine ⟨fun b hb => ?_, ?_, ?_⟩
    · rcases List.mem_cons.mp hb with rfl | hb
      · exact a
      · exact h1 b hb
    · rw [List.zip_cons_cons, List.map_cons, h2]
    · rw [List.zip_cons_cons, List.map_cons, h3]
/-! sorted(a tuple) -/
section
variable {prog : Program} {w : World} {A : Around} {E : Value → Shared → Prop} {s : Shared}
end
section
variable {X : Cx} {k : Nat} {pins : List (Addr × Obj)} {σ : L2.St} {H : Hp} {s : Shared}
/-! ### list(range(..)), tuple(range(..)) -/
variable {a b e : Expr} {ca cb : CE} {p pos : Pos} {cr : Rho → R (Int × Int)}
/-! ### x in range(..) -/
/-! ### len(set(xs)) of ints -/
end
end TN
/-! ### enumerate(tuple) -/
namespace PySem
open Sem (wp)
open AutoSeq1 (wpAny_loadPart')
section
variable {prog : Program} {w : World} {A : Around} {E : Value → Shared → Prop} {s : Shared}
end
end PySem
namespace TN
open PySem PySem.Spec PyProof.Rows L2
end TN
namespace TN
open PySem PySem.Spec PyProof.Rows L2

/-! ### what is walked: soundness -/
section
variable {K : PySem.W.Frag} {G : Hp} {a b : Addr} {xs ys : List V} {ds es : List D}
end

section
variable {X : Cx} {tg e e2 : Expr} {c c2 : CE} {p pos : Pos}
/-! range -/
/-! enumerate -/
/-! zip -/
end
end TN
namespace TN
open PySem PySem.Spec PyProof.Rows L2

/-! ### a list that a name owns changes -/
section
variable {K : PySem.W.Frag} {L : L2.St} {B G H : Hp} {σ : L2.St} {ρ : Rho} {d d' : D} {m : Md} {i : Nat} {a : Addr} {o : HO}
end
section
variable {X : Cx} {e : Expr} {es : List Expr} {ca : CA} {p apos cpos : Pos} {T id : String} {x name : Str} {r : V → List V → Hp → VK → Prop} {f : D → List D → Option (D × D)} {W : WX}
/-! append, extend, pop -/
end
end TN
namespace TN
open PySem PySem.Spec PyProof.Rows L2

/-! ### x[k] = v -/
section
variable {X : Cx} {x : Str} {k : Expr} {ck c : CE} {p pos : Pos} {t : TSet} {f : D → D → D → Option D} {W : WX}
/-! ### xs[k] += e -/
/-! lists -/
/-! dicts -/
/-! a, b = x, y -/
end
end TN
namespace TN
open PySem PySem.Spec PyProof.Rows L2

/-! ### methods that change nothing -/
section
variable {X : Cx} {o e : Expr} {es : List Expr} {co : CE} {ca : CA} {p apos cpos : Pos} {T id : String} {name : Str} {r : V → List V → Hp → VK → Prop} {f : D → List D → Option Pl} {W : WX}
/-! list.index, list.count -/
/-! xs[::-1] -/
end
end TN
namespace TN
open PySem PySem.Spec PyProof.Rows L2

/-! ### defs by their meanings -/
section
variable {X : Cx} {k n : Nat} {M : FM} {x : Str} {p pos : Pos} {e : Expr} {es : List Expr} {cr : CA}
end
/-! ### the head: facts of a part of the heap without lists -/
def isLst (o : Obj) : Bool := match o.cls, o.data with
  | .type c, .seq _ _ => decide (c = "list")
  | _, _ => false
def frN (K : PySem.W.Frag) : PySem.W.Frag := K.filter fun p => !isLst p.2
def NoLst (K : PySem.W.Frag) : Prop := ∀ (a : Addr) (o : Obj), K.lookup a = some o → isLst o = false
theorem lookup_mem {a : Addr} {o : Obj} : ∀ {K : PySem.W.Frag}, K.lookup a = some o → (a, o) ∈ K
  | [], h => nomatch (show (none : Option Obj) = some o from h)
  | (b, p) :: r, h => by
    have h2 : (match a == b with | true => some p | false => List.lookup a r) = some o := h
    cases q : a == b with
    | true =>
      rw [q] at h2
      cases h2
      rw [eq_of_beq q]
      exact List.mem_cons_self ..
    | false =>
      rw [q] at h2
      exact List.mem_cons_of_mem _ (lookup_mem h2)
theorem frN_no (K : PySem.W.Frag) : NoLst (frN K) := fun a o h => by
  have := (List.mem_filter.mp (lookup_mem h)).2
  simpa using this
theorem frN_in {as : List Addr} {h : Heap} : (frN (He.frG h.get? as)).In h := fun a o e => by
  have h1 := (List.mem_filter.mp (lookup_mem e)).1
  unfold He.frG at h1
  obtain ⟨b, _, hb⟩ := List.mem_filterMap.mp h1
  cases q : h.get? b with
  | none => rw [q] at hb; cases hb
  | some o' =>
    rw [q] at hb
    cases hb
    exact q
end TN
namespace TN
open PySem PySem.Spec PyProof.Rows L2

/-! ### t[::-1] -/
section
variable {prog : Program} {w : World} {A : Around} {E : Value → Shared → Prop} {s : Shared}
end
section
variable {X : Cx}
end
end TN
namespace TN
open PySem PySem.Spec PyProof.Rows L2
end TN
namespace TN
open PySem PySem.Spec PyProof.Rows L2

/-! ### f(g(..), ..): the first argument a new list, lent -/
section
variable {K : PySem.W.Frag} {L : L2.St} {B G H : Hp} {σ : L2.St} {ρ ρ' : Rho} {x : Option V} {v : V} {d : D} {a : Addr}
end
section
variable {X : Cx} {k n : Nat} {f : Addr} {fd : FuncData} {pn : List Str} {M : FM} {x : Str} {p pos : Pos} {e : Expr} {es : List Expr} {ce : CE} {cr : CA}
end
end TN
namespace TN
open PySem PySem.Spec PyProof.Rows L2

/-! ### calls, plainly -/
/-! ### loops, plainly -/
end TN
namespace TN
open PySem PySem.Spec PyProof.Rows L2

/-! ### what all laws begin by: a script's cell, a pen, its draws -/
/-! equations -/
structure Pen where
  a : Int
  f : Int
  s : Int
def Pen.d (p : Pen) : D := .list [.int p.a, .int p.f, .int p.s]
def nextI (s : Int) : Int := (((s + 7919) % 2147483647) * ((s + 7919) % 2147483647) + 48271 * ((s + 7919) % 2147483647) + 12345) % 2147483629
def Pen.draw (p : Pen) (m : Int) : Int := if p.f = 1 then p.a % m else nextI (nextI p.s + 7) / 64 % m
end TN
namespace TN
open PySem PySem.Spec PyProof.Rows L2

/-! ### comprehensions, loops: one turn -/
/-- one turn of a loop -/
def body (g : D → Rho → Option Rho) (b : CS) (x : D) (ρ : Rho) : RS := match g x ρ with
  | some ρ1 => b ρ1
  | none => .bad
/-! ### what is returned -/
/-! ### draws by a pen in a certain slot -/
section
variable {p : Pen} {m : Int} {s0 s1 s2 s3 s4 s5 s6 s7 : Slot} {ρ : Rho}
end

/-! ### is_whole -/
/-! ### equal data -/
/-! ### cuts -/
end TN
namespace TN
open PySem PySem.Spec PyProof.Rows L2
/-! ### loops by what was walked -/
/-! ### ranges -/
/-! ### steps by their parts -/
/-! ### sorted ints -/
/-! ### what is returned, what the parameters hold -/
/-! ### comprehensions with a test -/
/-! ### sums -/
end TN
namespace TN
open PySem PySem.Spec PyProof.Rows L2

/-! ### webs, steps: what many laws look at -/
def tieD (t : Nat × Nat) : D := .tuple [.int (t.1 : Nat), .int (t.2 : Nat)]
structure WebOk (n : Nat) (ts : List (Nat × Nat)) : Prop where
  n1 : 1 ≤ n
  nl : n ≤ 1000
  tl : ts.length ≤ 1000
  lt : ∀ t ∈ ts, t.1 < n ∧ t.2 < n
/-! are_numbers -/
/-! steps_good -/
/-! ties_at, tie_counts -/
/-! lists of ties -/
end TN
namespace TN
open PySem PySem.Spec PyProof.Rows L2
/-! ### is, is not: truths and None -/
end TN
namespace TN
open PySem PySem.Spec PyProof.Rows L2

/-! ### a list of a name's own gone through, and the name's own still behind -/
section
variable {K : PySem.W.Frag} {L : L2.St} {B G G1 H H1 : Hp} {σ : L2.St} {ρ : Rho} {a : Addr} {o : HO} {xs : List V} {ds : List D} {j : Nat} {m : Md}
end
section
variable {X : Cx} {elt tg iter : Expr} {ifs : List Expr} {scope : Scope} {own : List (Str × Nat)} {pos : Pos} {ci : CI} {g : D → Rho → Option Rho} {t : CB} {e : CE}
variable {ws : List Nat} {x y : Str} {py px spos : Pos} {j : Nat}
end
end TN
namespace TN
open PySem PySem.Spec PyProof.Rows L2

/-! ### chains of three: a op b op c op d -/
section
variable {X : Cx} {a b c d : Expr} {ta tb tc td : TE} {pos : Pos} {op op' op'' : CmpOp} {r r' r'' : R2}
end
section
variable {X : Cx} {a b c d : Expr} {ca cb cc cd : CE} {pos : Pos} {op op' op'' : CmpOp} {r r' r'' : R2} {e f g : D → D → Option Pl}
end
end TN
namespace TN
open PySem PySem.Spec PyProof.Rows L2
/-! ### <, >= of tuples of ints -/
end TN
namespace TN
open PySem PySem.Spec PyProof.Rows L2

/-! ### webs by drawn ties -/
/-! more steps -/
/-! the dict of ties -/
def sortT (F : List (Nat × Nat)) : List (Nat × Nat) := F.mergeSort fun a b => dLe (tieD a) (tieD b)
/-- a web as the laws draw it -/
structure GoodWeb (n : Nat) (ts : List (Nat × Nat)) : Prop where
  n1 : 1 ≤ n
  nl : n ≤ 40
  tl : ts.length ≤ 60
  lt : ∀ t ∈ ts, t.1 < t.2 ∧ t.2 < n
  nd : ts.Nodup
  so : ∃ F, ts = sortT F
theorem GoodWeb.ok {n : Nat} {ts : List (Nat × Nat)} (h : GoodWeb n ts) : WebOk n ts := ⟨h.n1, by have := h.nl; omega, by have := h.tl; omega, fun t ht => by have := h.lt t ht; omega⟩
end TN
namespace TN
open PySem PySem.Spec PyProof.Rows L2

/-! ### sums at places -/
/-! all unlike -/
end TN
namespace TN
open PySem PySem.Spec PyProof.Rows L2

/-! ### a drawn order -/
/-! the last of a list, put -/
end TN
namespace TN
open PySem PySem.Spec PyProof.Rows L2

/-! ### squares by drawn turns -/
end TN
namespace TN
open PySem PySem.Spec PyProof.Rows L2
/-! ### comprehensions that draw; held ones -/
/-! cuts of lists -/
end TN
namespace TN
open PySem PySem.Spec PyProof.Rows L2

/-! ### raise X() -/
/-! ### a caught exception is tracked -/
/-! ### try: body, except x as n: suite; n holds the exception, frozen -/
section
variable {X : Cx} {x n : Str} {c : Value} {i : Nat} {body suite : List Stmt} {b₀ : Stmt} {np pos pos' : Pos} {tb : WX → TS} {ts : TS} {Wout : WX}
end

/-! ### what is known of the classes -/
def exB (K : PySem.W.Frag) (cs : List Str) (x : Str) : Bool := He.eqO (PySem.W.nsIn K mainGlobals x) (some (some (.ref (He.ga K x)))) && (exC K (He.ga K x) && (exT K (He.ga K x) && (decide (PySem.W.exmOne K (.ref (He.ga K x)) (.ref (He.ga K ("TieError" : Str))) = some true) &&
  (decide (PySem.W.kitOne K (.ref (He.ga K x)) (.type "ValueError") = some true) && cs.all fun y => decide (PySem.W.kitOne K (.ref (He.ga K x)) (.ref (He.ga K y)) = some (x == y))))))
def exAll (cs : List Str) (K : PySem.W.Frag) : Bool := He.eqO (PySem.W.nsIn K mainGlobals ("TieError" : Str)) (some (some (.ref (He.ga K ("TieError" : Str))))) && cs.all (exB K cs)
/-! ### the catch -/
end TN
namespace TN
open PySem PySem.Spec PyProof.Rows L2 L2H

/-! ### defs that are called while an exception is handled -/
structure FnHot (P : Program) (w : World) (K : PySem.W.Frag) (mg : Str → Option Value) (base : Heap) (CX : CXT) (k : Nat) (f : Addr) (fd : FuncData) (ps : List Str) (sp : Sp) : Prop where
  len : ∀ vs H Q E, sp vs H Q E → vs.length = ps.length
  run : ∀ (A : Around) (outer : List Env) (s : Shared) (H : Hp) (args : Args) (us : List Value) (vs : List V) (Q : VK) (E : XK), RoomH k A → Env0 P w K mg base A outer s H → BindsTo s fd args (ps.zip us) → Vals vs us → sp vs H Q E →
    codeAny (model P w) A (.call (.ref f) args) (CR CX outer P w H s Q E) s
theorem FnHot.ok {P : Program} {w : World} {K : PySem.W.Frag} {mg : Str → Option Value} {base : Heap} {CX : CXT} {k : Nat} {f : Addr} {fd : FuncData} {ps : List Str} {sp : Sp} (F : FnHot P w K mg base CX k f fd ps sp) : FnOk P w K mg base CX k f fd ps sp :=
  ⟨F.len, fun A outer s H args us vs Q E hr => F.run A outer s H args us vs Q E (roomH_of hr)⟩
section
variable {X : Cx} {k n : Nat} {f : Addr} {fd : FuncData} {pn : List Str} {M : FM} {x : Str} {p pos : Pos} {e : Expr} {es : List Expr} {cr : CA}
end
/-! ### isinstance(e, C), e a caught exception -/
section
variable {X : Cx} {cs : List Str} {x : Expr} {c : CE} {C : Str} {p p2 pos : Pos}
end
end TN
namespace TN
open PySem PySem.Spec PyProof.Rows L2

/-! ### the head, with what is known of the exceptions' classes -/
abbrev AlX : Type := He.AlD × Bool
def obsX (n : Nat) (fa : List He.Fa) (fn : List He.DefD) (cs : List Str) (g : Addr → Option Obj) : AlX := (He.obsD fa fn (frN (He.frG g (He.asD g n))), exAll cs (frN (He.frG g (He.asD g n))))
end TN
namespace TN
open PySem PySem.Spec PyProof.Rows L2
/-! exceptions, plainly -/
/-! what is no place -/
end TN
namespace TN
open PySem PySem.Spec PyProof.Rows L2
end TN
namespace TN
open PySem PySem.Spec PyProof.Rows L2

/-! ### defs that hand out a tuple of values and of new lists -/
abbrev UI := List (D × Bool)
inductive UIs (K : PySem.W.Frag) (G H B : Hp) : List V → UI → Prop
  | nil : UIs K G H B [] []
  | cons {v : V} {vs : List V} {d : D} {b : Bool} {is : UI} : (b = false → Fz K G v d) → (b = true → ∃ a, v = .ref a ∧ G a = none ∧ B a = none ∧ Cont K G H a d) →
      (b = true → ∀ (j : Nat) (w : V) (d' : D), vs[j]? = some w → is[j]? = some (d', true) → w ≠ v) → UIs K G H B vs is → UIs K G H B (v :: vs) ((d, b) :: is)
theorem UIs.len {K : PySem.W.Frag} {G H B : Hp} : ∀ {vs : List V} {is : UI}, UIs K G H B vs is → vs.length = is.length
  | _, _, .nil => rfl
  | _, _, .cons _ _ _ r => by simp [r.len]
/-! ### the displayed tuple: new lists stay new -/
inductive PlAo (K : PySem.W.Frag) (B : Hp) (σ : L2.St) (ρ : Rho) (G H : Hp) : List V → List Pl → Prop
  | nil : PlAo K B σ ρ G H [] []
  | cons {v : V} {vs : List V} {p : Pl} {ps : List Pl} : PlOk K B σ ρ G H v p → (∀ d, p = .tmp d → ∀ (j : Nat) (w : V) (d' : D), vs[j]? = some w → ps[j]? = some (.tmp d') → w ≠ v) → PlAo K B σ ρ G H vs ps → PlAo K B σ ρ G H (v :: vs) (p :: ps)
theorem PlAo.len {K : PySem.W.Frag} {B : Hp} {σ : L2.St} {ρ : Rho} {G H : Hp} : ∀ {vs : List V} {ps : List Pl}, PlAo K B σ ρ G H vs ps → vs.length = ps.length
  | _, _, .nil => rfl
  | _, _, .cons _ _ r => by simp [r.len]
section
variable {X : Cx} {e : Expr} {es : List Expr} {c : CE} {r : CA}
end

/-! ### the items -/
/-! ### a body that ends with return (a, b, ..) -/
section
variable {X : Cx} {es : List Expr} {c : CS} {ca : CA} {pos pos' : Pos}
end
section
variable {P : Program} {w : World} {K : PySem.W.Frag} {mg : Str → Option Value} {base : Heap} {x qual : Str} {params : Arguments} {body : List Stmt} {scope : Scope} {f : Addr} {fd : FuncData}
end
/-! ### a, b, .. = f(..) -/
end TN
namespace TN
open PySem PySem.Spec PyProof.Rows L2

/-! ### steps numberings, plainly -/
/-! ### the spine -/
end TN
namespace TN
open PySem PySem.Spec PyProof.Rows L2
/-! webs made with their steps numberings -/
end TN
namespace TN
open PySem PySem.Spec PyProof.Rows L2
/-! rings and sides -/
end TN
namespace TN
open PySem PySem.Spec PyProof.Rows L2
/-! renamed -/
end TN
namespace TN
open PySem PySem.Spec PyProof.Rows L2
end TN
namespace TN
open PySem PySem.Spec PyProof.Rows L2
end TN
namespace TN
open PySem PySem.Spec PyProof.Rows L2
/-! dicts of whole numbers as sets -/
/-! a steps numbering, by dicts -/
end TN
namespace TN
open PySem PySem.Spec PyProof.Rows L2
/-! the look by dicts -/
end TN
namespace TN
open PySem PySem.Spec PyProof.Rows L2
/-! what is made of a numbering -/
end TN
namespace TN
open PySem PySem.Spec PyProof.Rows L2
/-! parted steps numberings -/
/-! plainly -/
section
variable {n : Nat} {ts : List (Nat × Nat)} {ns : List Int}
/-! what they compute -/
end
end TN
namespace TN
open PySem PySem.Spec PyProof.Rows L2

/-! ### exceptions with fields: what must be known of their classes -/
def oexB (K : PySem.W.Frag) (C : Addr) : Bool := (match K.lookup C with
  | some ⟨.type "type", _, .cls cd, sl⟩ => (match cd.mro, sl.toList with
    | .ref C' :: bm, [_, _, _, _, some (.builtin n), _] => C' == C && (n == "ValueError.__new__" && (!cd.hasDel && (cd.hasDict && PySem.HandSPX.refsVE bm)))
    | _, _ => false)
  | _ => false) && (decide (PySem.W.findIn K (.ref C) "__setattr__" = some (some (.builtin "object.__setattr__"))) && (decide (PySem.W.subIn K (.ref C) (.type "BaseException") = some true) && (decide (PySem.W.typeIn K (.ref C) = some (.type "type")) && PySem.W.keepIn K (.ref C))))
def clsB (s : Stmt) : List Stmt := match s with
  | .ClassDef _ _ _ b _ _ _ _ _ _ _ => b
  | _ => []
/-- a class x with these fields -/
def iniA (K : PySem.W.Frag) (x : Str) : Addr := He.fAd K (x, some "__init__")
def oxB (K : PySem.W.Frag) (p : Str × List Str) : Bool := oexB K (He.ga K p.1) && (decide (PySem.W.findIn K (.ref (He.ga K p.1)) "__init__" = some (some (.ref (iniA K p.1)))) && (decide (PySem.W.typeIn K (.ref (iniA K p.1)) = some (.type "function")) &&
  p.2.all fun f => decide (PySem.W.findIn K (.ref (He.ga K p.1)) f = some none)))
def oxAll (rs : List (Str × List Str)) (K : PySem.W.Frag) : Bool := rs.all (oxB K)
/-! ### the head -/
abbrev AlY : Type := AlX × Bool
def obsY (n : Nat) (fa : List He.Fa) (fn : List He.DefD) (cs : List Str) (rs : List (Str × List Str)) (g : Addr → Option Obj) : AlY := (obsX n fa fn cs g, oxAll rs (frN (He.frG g (He.asD g n))))
/-! ### making one -/
section
variable {P : Program} {w : World} {K : PySem.W.Frag} {mg : Str → Option Value} {base : Heap} {x qual : Str} {params : Arguments} {body : List Stmt} {scope : Scope} {fd : FuncData}
end
/-! ### raise X(e, ..) -/
/-! ### e.f, e a caught exception -/
end TN
namespace TN
open PySem PySem.Spec PyProof.Rows L2
/-! webs joined by marks; round numberings as the laws look at them; the greatest divisor -/
section
variable {n : Nat} {ts : List (Nat × Nat)}
/-! a round numbering, as the laws look at it -/
end
/-! the greatest divisor -/
end TN
namespace TN
open PySem PySem.Spec PyProof.Rows L2
/-! spines with legs, and the cases of round numberings -/
end TN
namespace TN
open PySem PySem.Spec PyProof.Rows L2
end TN
namespace TN
open PySem PySem.Spec PyProof.Rows L2
end TN
namespace TN
open PySem PySem.Spec PyProof.Rows L2
/-! pieces of webs -/
/-! marks, plainly -/
/-! pieces, plainly -/
/-! one piece -/
end TN
namespace TN
open PySem PySem.Spec PyProof.Rows L2
section
variable {n : Nat} {ts : List (Nat × Nat)}
/-! all pieces -/
end
end TN
namespace TN
open PySem PySem.Spec PyProof.Rows L2
/-! two sides of webs -/
section
variable {n : Nat} {ts : List (Nat × Nat)}
/-! the dict of sides -/
/-! the walk through the pieces -/
end
end TN
namespace TN
open PySem PySem.Spec PyProof.Rows L2
section
variable {n : Nat} {ts : List (Nat × Nat)}
end
end TN
namespace TN
open PySem PySem.Spec PyProof.Rows L2
/-! a, b = a list -/
end TN
namespace TN
open PySem PySem.Spec PyProof.Rows L2
/-! products: wide whole numbers, tuples so often -/
end TN
namespace TN
open PySem PySem.Spec PyProof.Rows L2
/-! is, is not: of a truth anything -/
end TN
namespace TN
open PySem PySem.Spec PyProof.Rows L2
/-! spines numbered from both ends -/
section
variable (legs : List Nat)
end
end TN
namespace TNO
open TN
open PySem PySem.Spec PyProof.Rows L2
/-! what is wanted of a run, told from its end: each step leads to what is wanted of the next -/
section
variable {α : Type} {ρ ρ1 ρ2 : Rho} {E : Xc → Rho → Prop} {d : D} {ds : List D} {i j : Nat}
/-! truths -/
section
variable {A B : Prop}
end
/-! looking -/
/-! expressions -/
section
variable {Q : Pl → Rho → Prop} {a b c : CE} {ca : CA}
end
/-! what is walked -/
section
variable {Q : List D → Rho → Prop} {a b c : CE}
end
/-! statements -/
section
variable {N : Rho → Prop} {T : D → Bool → Rho → Prop} {a b : CS} {c : CE} {t : CB} {g : D → Rho → Option Rho}
end
/-! targets -/
section
variable {N : Rho → Prop}
end
/-! comprehensions -/
section
variable {Q : Pl → Rho → Prop} {g : D → Rho → Option Rho} {t : CB} {e : CE} {vs : List Nat}
end
/-! calls -/
section
variable {Q : Pl → Rho → Prop} {M : FM} {ps : List Pl} {as : List (D × Md)} {outs : List Slot} {x : Xc}
end
section
end
/-! defs -/
section
variable {n m : Nat} {c : CS} {as : List (D × Md)} {fr : Bool} {r : FR} {o : List Slot} {x : Xc}
end
end
/-! what operators give, asked for from the end -/
section
variable {Q : Pl → Prop} {i j : Int} {a b : List D} {P : D → D → Prop} {x : D}
end
end TNO
namespace TN
open PySem PySem.Spec PyProof.Rows L2
/-! the same over words that nothing unfolds by itself -/
/-! what is wanted of a run, told from its end: each step leads to what is wanted of the next -/
section
variable {α : Type} {ρ ρ1 ρ2 : Rho} {E : Xc → Rho → Prop} {d : D} {ds : List D} {i j : Nat}
/-! truths -/
section
variable {A B : Prop}
end
/-! looking -/
/-! expressions -/
section
variable {Q : Pl → Rho → Prop} {a b c : CE} {ca : CA}
end
/-! what is walked -/
section
variable {Q : List D → Rho → Prop} {a b c : CE}
end
/-! statements -/
section
variable {N : Rho → Prop} {T : D → Bool → Rho → Prop} {a b : CS} {c : CE} {t : CB} {g : D → Rho → Option Rho}
end
/-! targets -/
section
variable {N : Rho → Prop}
end
/-! comprehensions -/
section
variable {Q : Pl → Rho → Prop} {g : D → Rho → Option Rho} {t : CB} {e : CE} {vs : List Nat}
end
/-! calls -/
section
variable {Q : Pl → Rho → Prop} {M : FM} {ps : List Pl} {as : List (D × Md)} {outs : List Slot} {x : Xc}
end
section
end
/-! defs -/
section
variable {n m : Nat} {c : CS} {as : List (D × Md)} {fr : Bool} {r : FR} {o : List Slot} {x : Xc}
end
end
/-! what operators give, asked for from the end -/
section
variable {Q : Pl → Prop} {i j : Int} {a b : List D} {P : D → D → Prop} {x : D}
end
end TN
namespace TN
open PySem PySem.Spec PyProof.Rows L2
section
variable {ρ ρ1 : Rho} {N : Rho → Prop} {T : D → Bool → Rho → Prop} {E : Xc → Rho → Prop} {g : D → Rho → Option Rho} {b : CS}
end
end TN
namespace TN
open PySem PySem.Spec PyProof.Rows L2
section
variable (legs : List Nat)
end
end TN
namespace TN
open PySem PySem.Spec PyProof.Rows L2
/-! parted numberings of trees, plainly -/
section
variable {n : Nat} {ts : List (Nat × Nat)} {ns : List Int} {lo : Int}
/-! the round numbering by it -/
end
/-! spines -/
section
variable (legs : List Nat)
end
end TN
namespace TN
open PySem PySem.Spec PyProof.Rows L2
end TN
namespace TN
open PySem PySem.Spec PyProof.Rows L2
/-! ### displays of dicts -/
section
variable {X : Cx}
section
variable {K : PySem.W.Frag} {L : L2.St} {B G H : Hp} {σ : L2.St} {ρ : Rho} {p : Addr} {o : HO}
end
end
end TN
namespace TN
open PySem PySem.Spec PyProof.Rows L2
/-! ### d.get(k, z) -/
section
variable {X : Cx}
end
/-! ### constants of the module: dicts of texts and ints -/
section
variable {X : Cx} {x : Str} {es : List (Str × Int)} {e : Expr} {c : CE} {pos p : Pos}
end
abbrev Tb := Str × List (Str × Int)
def tabObs (ts : List Tb) (K : PySem.W.Frag) : List (Option (List (Option (Str × Int)))) × Bool := (ts.map fun t => He.dicW K (He.ga K t.1), ts.all fun t => He.Fa.ok K (.glo t.1) && He.valsB K (He.ga K t.1) (t.2.map fun q => (q.1, He.Dv.int q.2)))
def tabVal (ts : List Tb) (w : World) : List (Option (List (Option (Str × Int)))) × Bool := (ts.map fun t => some (He.keysIn w.params (t.2.map (·.1))), true)
/-! ### the head, with these -/
abbrev AlZ : Type := AlY × (List (Option (List (Option (Str × Int)))) × Bool)
def obsZ (n : Nat) (fa : List He.Fa) (fn : List He.DefD) (cs : List Str) (rs : List (Str × List Str)) (ts : List Tb) (g : Addr → Option Obj) : AlZ := (obsY n fa fn cs rs g, tabObs ts (frN (He.frG g (He.asD g n))))
def hookZ (n : Nat) (fa : List He.Fa) (fn : List He.DefD) (cs : List Str) (rs : List (Str × List Str)) (ts : List Tb) : PySem.W.Hook where
  α := AlZ
  obs := fun s => obsZ n fa fn cs rs ts s.heap.get?
  val := fun w => (((He.valD fn, true), true), tabVal ts w)
  says := fun w h => ∃ K : PySem.W.Frag, K.In h ∧ NoLst K ∧ He.SaysD fa fn K ∧ exAll cs K = true ∧ oxAll rs K = true ∧ tabObs ts K = tabVal ts w
  of := fun _ _ e => ⟨_, frN_in, frN_no _, congrArg (fun z : AlZ => z.1.1.1) e, congrArg (fun z : AlZ => z.1.1.2) e, congrArg (fun z : AlZ => z.1.2) e, congrArg Prod.snd e⟩
  keeps := fun _ _ _ ⟨K, hK, n, c⟩ k => ⟨K, PySem.W.Frag.In.keeps hK k, n, c⟩
end TN
namespace TN
open PySem PySem.Spec PyProof.Rows L2
/-! ### ties in order -/
/-! ### kinds -/
end TN
namespace TN
open PySem PySem.Spec PyProof.Rows L2
end TN
namespace TN
open PySem PySem.Spec PyProof.Rows L2
end TN
namespace TN
open PySem PySem.Spec PyProof.Rows L2
/-! ### defs that hand out new lists in a tuple, from their end -/
/-! ### the law's webs of kinds -/
section
variable {C : Nat → Nat → Prop} [∀ a b, Decidable (C a b)]
end
end TN
namespace TN
open PySem PySem.Spec PyProof.Rows L2
/-! ### equal webs -/
/-! ### f(g(..), x) where g's list is lent -/
end TN
namespace TN
open PySem PySem.Spec PyProof.Rows L2
/-! ### steps numberings of kinds, plainly -/
/-! ### the package's runs -/
end TN
namespace TN
open PySem PySem.Spec PyProof.Rows L2
/-! steps_for, parted_for and the law's look at a steps numbering, as runs -/
end TN
namespace TN
open PySem PySem.Spec PyProof.Rows L2
/-! kinds compared, plainly -/
end TN
namespace TNO
open TN
open PySem PySem.Spec PyProof.Rows L2
/-! comprehensions over an own list, told from their end -/
end TNO
namespace TN
open PySem PySem.Spec PyProof.Rows L2
end TN
namespace TN
open PySem PySem.Spec PyProof.Rows L2
/-! ### copies that go round, plainly -/
section
variable {C M t t' : Nat} {p q : Int × Int}
end
/-! ### .. and as runs -/
end TN
namespace TNO
open TN
open PySem PySem.Spec PyProof.Rows L2
/-! i in range(..), told from its end -/
end TNO
namespace TN
open PySem PySem.Spec PyProof.Rows L2
end TN
namespace TN
open PySem PySem.Spec PyProof.Rows L2
end TN
namespace TN
open PySem PySem.Spec PyProof.Rows L2
/-! the sums of round numberings, turned and so often -/
section
variable {n : Nat} {ts : List (Nat × Nat)} {ns : List Int}
end
/-! ### bars of round numberings, plainly -/
section
variable {n : Nat} {ts : List (Nat × Nat)} {ns : List Int}
end
end TN
namespace TN
open PySem PySem.Spec PyProof.Rows L2
/-! ### how many pieces there are, plainly -/
end TN
namespace TN
open PySem PySem.Spec PyProof.Rows L2
/-! ### trees have two sides; pieces hold all places, once; plainly -/
end TN
namespace TN
open PySem PySem.Spec PyProof.Rows L2
/-! ### kinds by their words, plainly -/
end TN
namespace TN
open PySem PySem.Spec PyProof.Rows L2
/-! ### s.upper() -/
end TN
namespace TN
open PySem PySem.Spec PyProof.Rows L2
/-! ### kind_form of a thing of any form -/
end TN
namespace TN
open PySem PySem.Spec PyProof.Rows L2
/-! ### kinds by form, too great ones too -/
end TN
namespace TN
open PySem PySem.Spec PyProof.Rows L2
/-! ### kind_good of a thing of any form -/
end TN
namespace TNO
open TN
open PySem PySem.Spec PyProof.Rows L2
/-! d.get(k, z), told from its end -/
end TNO
namespace TN
open PySem PySem.Spec PyProof.Rows L2
end TN
/-! ### enumerate(reversed(xs)) -/
namespace PySem
open Sem (wp)
open AutoSeq1 (wpAny_loadPart')
section
variable {prog : Program} {w : World} {A : Around} {E : Value → Shared → Prop} {s : Shared}
end
section
variable {prog : Program} {w : World} {A : Around} {E : Value → Shared → Prop} {s : Shared}
end
end PySem
namespace TN
open PySem PySem.Spec PyProof.Rows L2
section
variable {X : Cx} {e : Expr} {c : CE} {p pos : Pos}
end
end TN
namespace TNO
open PySem PySem.Spec PyProof.Rows L2 TN
end TNO
namespace TN
open PySem PySem.Spec PyProof.Rows L2
end TN
/-! ### zip of a list with a tuple, of a tuple with a list (printed by mkL90.py) -/
namespace PySem
open Sem (wp)
section
variable {prog : Program} {w : World} {A : Around} {E : Value → Shared → Prop} {s : Shared}
end
end PySem
namespace PySem
open Sem (wp)
section
variable {prog : Program} {w : World} {A : Around} {E : Value → Shared → Prop} {s : Shared}
end
end PySem
namespace TN
open PySem PySem.Spec PyProof.Rows L2
end TN
namespace TN
open PySem PySem.Spec PyProof.Rows L2
end TN
namespace TN
open PySem PySem.Spec PyProof.Rows L2
end TN
namespace TN
open PySem PySem.Spec PyProof.Rows L2
end TN
namespace TN
open PySem PySem.Spec PyProof.Rows L2
section
variable {X : Cx} {e e2 : Expr} {c c2 : CE} {p pos : Pos}
end
end TN
namespace TNO
open PySem PySem.Spec PyProof.Rows L2 TN
end TNO
namespace TN
open PySem PySem.Spec PyProof.Rows L2
end TN
/-! ### set(a) == set(b), of whole numbers -/
namespace PySem
open Sem (wp)
section
variable {prog : Program} {w : World} {A : Around} {E : Value → Shared → Prop} {s : Shared}
end
end PySem
namespace TN
open PySem PySem.Spec PyProof.Rows L2
section
variable {X : Cx} {a b : Expr} {ca cb : CE} {p p2 q q2 pos : Pos}
end
end TN
namespace TNO
open PySem PySem.Spec PyProof.Rows L2 TN
end TNO
namespace TN
open PySem PySem.Spec PyProof.Rows L2
end TN
/-! ### min(a, b, c) -/
namespace TN
open PySem PySem.Spec PyProof.Rows L2
end TN
namespace TN
open PySem PySem.Spec PyProof.Rows L2
/-! ### bars -/
section
variable {n : Nat} {ts : List (Nat × Nat)}
/-! ### round_from, by the package -/
end
/-! ### round_for -/
end TN
namespace TN
open PySem PySem.Spec PyProof.Rows L2
/-! ### the laws' look at bars -/
section
variable {n : Nat} {ts : List (Nat × Nat)}
end
end TN
namespace TN
open PySem PySem.Spec PyProof.Rows L2
section
variable {n : Nat} {ts : List (Nat × Nat)}
end
/-! ### the webs of the laws on bars -/
end TN
namespace TNO
open PySem PySem.Spec PyProof.Rows L2 TN
end TNO
namespace TN
open PySem PySem.Spec PyProof.Rows L2
end TN
namespace TN
open PySem PySem.Spec PyProof.Rows L2
/-! ### orders -/
/-! ### total_span -/
end TN
namespace TN
open PySem PySem.Spec PyProof.Rows L2
/-! ### total numberings -/
section
variable {n : Nat} {ts : List (Nat × Nat)} {P T : List Int}
/-! bars -/
end

end TN
/-! ### isinstance(x, (list, tuple)) -/
namespace TN
open PySem PySem.Spec PyProof.Rows L2
section
variable {X : Cx} {e : Expr} {te : TE} {c : CE} {p p2 p3 pos tpos : Pos}
end
end TN
namespace TN
open PySem PySem.Spec PyProof.Rows L2
/-! ### unlike numberings: the package's ways -/
section
variable {n : Nat} {ts : List (Nat × Nat)}
end
/-! the laws' sums -/
section
variable {n : Nat} {ts : List (Nat × Nat)}
end

end TN
namespace TN
open PySem PySem.Spec PyProof.Rows L2
section
variable {n : Nat} {ts : List (Nat × Nat)}
end
end TN
namespace TN
open PySem PySem.Spec PyProof.Rows L2
/-! ### numbers put by a hub: the sums are unlike -/
section
variable {n : Nat} {ts : List (Nat × Nat)}
variable {hb : Nat}
end
end TN
namespace TN
open PySem PySem.Spec PyProof.Rows L2
/-! ### unlike_by by a hub, unlike_for of kinds -/
section
variable {n : Nat} {ts : List (Nat × Nat)} {hb : Nat}
end
section
variable {n : Nat} {ts : List (Nat × Nat)}
end
end TN
namespace TN
open PySem PySem.Spec PyProof.Rows L2

/-! ### a comprehension over a name's own dict of tuple keys: the dict is held and locked -/
section
variable {K : PySem.W.Frag} {L : L2.St} {B G G1 H H1 : Hp} {σ : L2.St} {ρ : Rho} {a : Addr} {o : HO} {xs : List V} {ds : List D} {j : Nat} {m : Md}
end
section
variable {X : Cx} {elt tg iter : Expr} {ifs : List Expr} {scope : Scope} {own : List (Str × Nat)} {pos : Pos} {ci : CI} {g : D → Rho → Option Rho} {t : CB} {e : CE}
end
end TN
namespace TNO
open TN
open PySem PySem.Spec PyProof.Rows L2
/-! comprehensions over an own dict of ties, told from their end -/
end TNO
namespace TN
open PySem PySem.Spec PyProof.Rows L2
/-! ### the laws' webs with a hub -/
end TN
namespace TN
open PySem PySem.Spec PyProof.Rows L2
/-! ### numbers handed to unlike_by: lists, tuples, in any order; what is none -/
end TN
/-! ### t.index(k), t a tuple of whole numbers, k one of them -/
namespace TN
open PySem PySem.Spec PyProof.Rows L2
section
variable {X : Cx} {o e : Expr} {es : List Expr} {co : CE} {ca : CA} {apos cpos : Pos} {id : String} {name : Str} {r : V → List V → Hp → VK → Prop} {f : D → List D → Option Pl}
end
end TN
namespace TNO
open PySem PySem.Spec PyProof.Rows L2 TN
end TNO
namespace TN
open PySem PySem.Spec PyProof.Rows L2
end TN
namespace TN
open PySem PySem.Spec PyProof.Rows L2
/-! the package's growing, bars, mirrors, joins -/
/-! ### webs grown -/
end TN
namespace TN
open PySem PySem.Spec PyProof.Rows L2
/-! ### the bars of steps -/
end TN
namespace TN
open PySem PySem.Spec PyProof.Rows L2
/-! ### f(a, b, g(..)): the last of three arguments a new list, lent -/
section
variable {X : Cx} {k : Nat} {f : Addr} {fd : FuncData} {pn : List Str} {M : FM} {x : Str} {p pos : Pos} {a b e : Expr} {c1 c2 c3 : CE}
end
end TN
namespace TNO
open PySem PySem.Spec PyProof.Rows L2 TN
end TNO
namespace TN
open PySem PySem.Spec PyProof.Rows L2
end TN
namespace TN
open PySem PySem.Spec PyProof.Rows L2
/-! ### webs joined at a place -/
section
variable {n m : Nat} {ts us : List (Nat × Nat)} {N M : List Int} {t u : Int}
end
end TN
namespace TNO
open PySem PySem.Spec PyProof.Rows L2 TN
end TNO
namespace TN
open PySem PySem.Spec PyProof.Rows L2
/-! ### joined_webs run -/
section
variable {n m : Nat} {ts us : List (Nat × Nat)} {N M : List Int} {t : Int}
end
end TN
namespace TN
open PySem PySem.Spec PyProof.Rows L2
/-! ### what is good is such; joined webs, whole -/
section
variable {n m : Nat} {ts us : List (Nat × Nat)} {N M : List Int} {t u : Int}
end
end TN
namespace TN
open PySem PySem.Spec PyProof.Rows L2
/-! ### the laws' parted webs -/
end TN
namespace TN
open PySem PySem.Spec PyProof.Rows L2

/-! ### repr: defs that are called where nothing is being shown -/
section
variable {X : Cx} {k : Nat}
end
/-! ### {} == a tuple -/
open Sem in
open Sem in
section
variable {X : Cx} {k : Nat}
end
/-! ### such defs -/
section
variable {X : Cx} {k n : Nat} {f : Addr} {fd : FuncData} {pn : List Str} {M : FM} {x : Str} {p pos : Pos} {e : Expr} {es : List Expr} {cr : CA}
end
/-! ### the top: nothing is being shown there -/
/-! ### sum(range(..)) -/
section
variable {prog : Program} {w : World} {A : Around} {E : Value → Shared → Prop} {s : Shared} {r : Addr} {a b : Int} {t u v : Tok} {Q : Value → Shared → Prop}
end
section
variable {X : Cx} {e : Expr} {cr : Rho → R (Int × Int)} {p pos : Pos} {te : L2.St → Hp → (Int → Int → Hp → Prop) → Prop}
end
end TN
namespace K74
open PySem PySem.Spec PyProof.Rows L2 TN
def XS : List Str := ["NoWeb", "NoPlace", "NoKind", "TooGreat"]
def RS : List (Str × List Str) := [("NoWeb", ["number"]), ("TooGreat", ["many", "most"])]
def TS : List Tb := [("LEAST", [("ring", 3), ("full", 1), ("wheel", 3), ("fan", 1)])]
end K74
namespace K74
open PySem PySem.Spec PyProof.Rows L2 TN
/-! numbers by folds, plainly -/
section
variable {n M F c : Nat} {ts : List (Nat × Nat)} {N : List Int} {lo : Int}
end
/-! a cut is good -/
section
variable {n : Nat} {ts : List (Nat × Nat)} {A : List (List Int)} {s : Int}
end
end K74
namespace K74
open PySem PySem.Spec PyProof.Rows L2 TN
/-! the rows of the cuts -/
section
variable {n M : Nat} {ts : List (Nat × Nat)} {N : List Int}
end
end K74
namespace K74
open PySem PySem.Spec PyProof.Rows L2 TN
/-! where two places are tied (as in k72) -/
section
variable {n M : Nat} {ts : List (Nat × Nat)} {N : List Int}
end
/-! cut by folds (as in k73) -/
section
variable {n M F c : Nat} {ts : List (Nat × Nat)} {N : List Int} {lo : Int}
end
end K74
namespace K74
open PySem PySem.Spec PyProof.Rows L2 TN
/-! each two places are tied in their copy -/
section
variable {n M : Nat} {ts : List (Nat × Nat)} {N : List Int}
end
end K74
namespace K74
open PySem PySem.Spec PyProof.Rows L2 TN
/-! kinds drawn -/
end K74
namespace K74
open PySem PySem.Spec PyProof.Rows L2 TN
/-! the law -/
section
variable {n M : Nat} {ts : List (Nat × Nat)} {N : List Int}
end
end K74
namespace K74
open PySem PySem.Spec PyProof.Rows L2 TN
abbrev prog : Program := PySem.Challenge.pw_tienumbers_k74_whole_cuts_and_places
def top (i : Nat) : Stmt := prog.main.body.getD i (.Pass ⟨0, 0, 0, 0⟩)
abbrev s__law_cell_at : Stmt := top 41
def d__law_cell_at : He.DefD := ⟨("_law_cell_at", none), "_law_cell_at", "_law_cell_at", defArgs s__law_cell_at, defBody s__law_cell_at, defScope s__law_cell_at, [], []⟩
abbrev s__law_pen_of : Stmt := top 43
def d__law_pen_of : He.DefD := ⟨("_law_pen_of", none), "_law_pen_of", "_law_pen_of", defArgs s__law_pen_of, defBody s__law_pen_of, defScope s__law_pen_of, [], []⟩
abbrev s__law_next : Stmt := top 42
def d__law_next : He.DefD := ⟨("_law_next", none), "_law_next", "_law_next", defArgs s__law_next, defBody s__law_next, defScope s__law_next, [], []⟩
abbrev s__law_draw : Stmt := top 44
def d__law_draw : He.DefD := ⟨("_law_draw", none), "_law_draw", "_law_draw", defArgs s__law_draw, defBody s__law_draw, defScope s__law_draw, [], []⟩
abbrev s__law_kind_of_few : Stmt := top 45
def d__law_kind_of_few : He.DefD := ⟨("_law_kind_of_few", none), "_law_kind_of_few", "_law_kind_of_few", defArgs s__law_kind_of_few, defBody s__law_kind_of_few, defScope s__law_kind_of_few, [], []⟩
abbrev s_is_whole : Stmt := top 9
def d_is_whole : He.DefD := ⟨("is_whole", none), "is_whole", "is_whole", defArgs s_is_whole, defBody s_is_whole, defScope s_is_whole, [], []⟩
abbrev s_legs_good : Stmt := top 12
def d_legs_good : He.DefD := ⟨("legs_good", none), "legs_good", "legs_good", defArgs s_legs_good, defBody s_legs_good, defScope s_legs_good, [], []⟩
abbrev s_kind_form : Stmt := top 13
def d_kind_form : He.DefD := ⟨("kind_form", none), "kind_form", "kind_form", defArgs s_kind_form, defBody s_kind_form, defScope s_kind_form, [], []⟩
abbrev s_spine_ties : Stmt := top 14
def d_spine_ties : He.DefD := ⟨("spine_ties", none), "spine_ties", "spine_ties", defArgs s_spine_ties, defBody s_spine_ties, defScope s_spine_ties, [], []⟩
abbrev s_row_ties : Stmt := top 15
def d_row_ties : He.DefD := ⟨("row_ties", none), "row_ties", "row_ties", defArgs s_row_ties, defBody s_row_ties, defScope s_row_ties, [], []⟩
abbrev s_kind_ties : Stmt := top 16
def d_kind_ties : He.DefD := ⟨("kind_ties", none), "kind_ties", "kind_ties", defArgs s_kind_ties, defBody s_kind_ties, defScope s_kind_ties, [], []⟩
abbrev s_kind_good : Stmt := top 17
def d_kind_good : He.DefD := ⟨("kind_good", none), "kind_good", "kind_good", defArgs s_kind_good, defBody s_kind_good, defScope s_kind_good, [], []⟩
abbrev s_web_for : Stmt := top 18
def d_web_for : He.DefD := ⟨("web_for", none), "web_for", "web_for", defArgs s_web_for, defBody s_web_for, defScope s_web_for, [], []⟩
abbrev s_check_made : Stmt := top 23
def d_check_made : He.DefD := ⟨("check_made", none), "check_made", "check_made", defArgs s_check_made, defBody s_check_made, defScope s_check_made, [], []⟩
abbrev s_spine_steps : Stmt := top 20
def d_spine_steps : He.DefD := ⟨("spine_steps", none), "spine_steps", "spine_steps", defArgs s_spine_steps, defBody s_spine_steps, defScope s_spine_steps, [], []⟩
abbrev s_sides_steps : Stmt := top 21
def d_sides_steps : He.DefD := ⟨("sides_steps", none), "sides_steps", "sides_steps", defArgs s_sides_steps, defBody s_sides_steps, defScope s_sides_steps, [], []⟩
abbrev s_ring_steps : Stmt := top 22
def d_ring_steps : He.DefD := ⟨("ring_steps", none), "ring_steps", "ring_steps", defArgs s_ring_steps, defBody s_ring_steps, defScope s_ring_steps, [], []⟩
abbrev s_steps_for : Stmt := top 24
def d_steps_for : He.DefD := ⟨("steps_for", none), "steps_for", "steps_for", defArgs s_steps_for, defBody s_steps_for, defScope s_steps_for, [], []⟩
abbrev s_check_folded : Stmt := top 35
def d_check_folded : He.DefD := ⟨("check_folded", none), "check_folded", "check_folded", defArgs s_check_folded, defBody s_check_folded, defScope s_check_folded, [], []⟩
abbrev s_round_copies : Stmt := top 36
def d_round_copies : He.DefD := ⟨("round_copies", none), "round_copies", "round_copies", defArgs s_round_copies, defBody s_round_copies, defScope s_round_copies, [], []⟩
abbrev s_cut_by : Stmt := top 37
def d_cut_by : He.DefD := ⟨("cut_by", none), "cut_by", "cut_by", defArgs s_cut_by, defBody s_cut_by, defScope s_cut_by, [], []⟩
abbrev s_copy_good : Stmt := top 32
def d_copy_good : He.DefD := ⟨("copy_good", none), "copy_good", "copy_good", defArgs s_copy_good, defBody s_copy_good, defScope s_copy_good, [], []⟩
abbrev s_copy_ties : Stmt := top 33
def d_copy_ties : He.DefD := ⟨("copy_ties", none), "copy_ties", "copy_ties", defArgs s_copy_ties, defBody s_copy_ties, defScope s_copy_ties, [], []⟩
abbrev s_cut_good : Stmt := top 34
def d_cut_good : He.DefD := ⟨("cut_good", none), "cut_good", "cut_good", defArgs s_cut_good, defBody s_cut_good, defScope s_cut_good, [], []⟩
abbrev s_found_in : Stmt := top 39
def d_found_in : He.DefD := ⟨("found_in", none), "found_in", "found_in", defArgs s_found_in, defBody s_found_in, defScope s_found_in, [], []⟩
abbrev s__law_each_pair : Stmt := top 46
def d__law_each_pair : He.DefD := ⟨("_law_each_pair", none), "_law_each_pair", "_law_each_pair", defArgs s__law_each_pair, defBody s__law_each_pair, defScope s__law_each_pair, [], []⟩
abbrev s_grown_web : Stmt := top 26
def d_grown_web : He.DefD := ⟨("grown_web", none), "grown_web", "grown_web", defArgs s_grown_web, defBody s_grown_web, defScope s_grown_web, [], []⟩
abbrev s_grown_above : Stmt := top 27
def d_grown_above : He.DefD := ⟨("grown_above", none), "grown_above", "grown_above", defArgs s_grown_above, defBody s_grown_above, defScope s_grown_above, [], []⟩
abbrev s_parted_for : Stmt := top 25
def d_parted_for : He.DefD := ⟨("parted_for", none), "parted_for", "parted_for", defArgs s_parted_for, defBody s_parted_for, defScope s_parted_for, [], []⟩
abbrev s_parting_of : Stmt := top 29
def d_parting_of : He.DefD := ⟨("parting_of", none), "parting_of", "parting_of", defArgs s_parting_of, defBody s_parting_of, defScope s_parting_of, [], []⟩
abbrev s_folds_by : Stmt := top 38
def d_folds_by : He.DefD := ⟨("folds_by", none), "folds_by", "folds_by", defArgs s_folds_by, defBody s_folds_by, defScope s_folds_by, [], []⟩
abbrev s_law : Stmt := top 47
def d_law : He.DefD := ⟨("law", none), "law", "law", defArgs s_law, defBody s_law, defScope s_law, [], []⟩
abbrev s_I_TooGreat : Stmt := (clsB (top 5)).getD 0 (.Pass ⟨0, 0, 0, 0⟩)
def d_I_TooGreat : He.DefD := ⟨("TooGreat", some "__init__"), "__init__", "TooGreat.__init__", defArgs s_I_TooGreat, defBody s_I_TooGreat, defScope s_I_TooGreat, [], []⟩
abbrev s_I_NoWeb : Stmt := (clsB (top 2)).getD 0 (.Pass ⟨0, 0, 0, 0⟩)
def d_I_NoWeb : He.DefD := ⟨("NoWeb", some "__init__"), "__init__", "NoWeb.__init__", defArgs s_I_NoWeb, defBody s_I_NoWeb, defScope s_I_NoWeb, [], []⟩
end K74
namespace K74
open PySem PySem.Spec PyProof.Rows L2 TN
def fns : List He.DefD := [d__law_cell_at, d__law_pen_of, d__law_next, d__law_draw, d__law_kind_of_few, d_is_whole, d_legs_good, d_kind_form, d_spine_ties, d_row_ties, d_kind_ties, d_kind_good, d_web_for, d_check_made, d_spine_steps, d_sides_steps, d_ring_steps, d_steps_for, d_check_folded, d_round_copies, d_cut_by, d_copy_good, d_copy_ties, d_cut_good, d_found_in, d__law_each_pair, d_grown_web, d_grown_above, d_parted_for, d_parting_of, d_folds_by, d_law, d_I_TooGreat, d_I_NoWeb]
def fas : List He.Fa := [.glo "_law_cell_at", .glo "_law_pen_of", .glo "_law_next", .glo "_law_draw", .glo "_law_kind_of_few", .glo "is_whole", .glo "legs_good", .glo "kind_form", .glo "spine_ties", .glo "row_ties", .glo "kind_ties", .glo "kind_good", .glo "web_for", .glo "check_made", .glo "spine_steps", .glo "sides_steps", .glo "ring_steps", .glo "steps_for", .glo "check_folded", .glo "round_copies", .glo "cut_by", .glo "copy_good", .glo "copy_ties", .glo "cut_good", .glo "found_in", .glo "_law_each_pair", .glo "grown_web", .glo "grown_above", .glo "parted_for", .glo "parting_of", .glo "folds_by", .glo "law", .free "len", .free "max", .free "int", .free "range", .free "tuple", .free "isinstance", .free "bool", .int "MOST_PLACES" (40), .free "all", .free "sum", .free "str", .free "enumerate", .int "MOST_TIES" (60), .exc "NoKind", .free "sorted", .free "list", .int "MOST_FOLDED" (30), .free "set", .free "min", .exc "NoPlace", .free "abs"]
abbrev R : PySem.W.OpenRow := PySem.W.OpenLaw.row PySem.Challenge.rw_tienumbers_k74_whole_cuts_and_places
abbrev hk : PySem.W.Hook := hookZ 4 fas fns XS RS TS
def ob (s : PySem.W.SharedT) : AlZ := obsZ 4 fas fns XS RS TS (HandSHeadRun.getT s)
theorem run : ∀ (w : World), HandSHeadRun.RunEq R (PySem.W.view R.prog [47]) hk ob 6000 ((("TieError" : Str) :: "NoWeb" :: "NoPlace" :: "NoKind" :: "TooGreat" :: "MOST_PLACES" :: "MOST_TIES" :: "is_whole" :: "LEAST" :: "legs_good" :: "kind_form" :: "spine_ties" :: "row_ties" :: "kind_ties" :: "kind_good" :: "web_for" :: "spine_steps" :: "sides_steps" :: "ring_steps" :: "check_made" :: "steps_for" :: "parted_for" :: "grown_web" :: "grown_above" :: "parting_of" :: "MOST_FOLDED" :: "copy_good" :: "copy_ties" :: "cut_good" :: "check_folded" :: "round_copies" :: "cut_by" :: "folds_by" :: "found_in" :: "_law_cell_at" :: "_law_next" :: "_law_pen_of" :: "_law_draw" :: "_law_kind_of_few" :: "_law_each_pair" :: [])) w :=
  PySem.W.byRow2 "special-get-raises" (fun w => by
    intro os
    kernel_rfl) (fun w => by
    intro os
    kernel_rfl)
end K74
open PySem PySem.W PySem.Calls PyProof.Rows
end
namespace TN
open PySem PySem.Spec PyProof.Rows L2
/-! a caught exception, as data: its class's name, its fields -/
def isX : D → Bool
  | .dict ((.bool true, _) :: _) => true
  | _ => false
theorem sqt {K : PySem.W.Frag} {G : Hp} {a : Addr} {xs : List V} (h : Kt G a xs) : SqT K G a xs := let ⟨o, e, _⟩ := h; .inl (.inr ⟨o, e⟩)
section
variable {K : PySem.W.Frag} {G G' : Hp}
end
/-! ### lists of data -/
section
variable {K : PySem.W.Frag} {G G' H H' : Hp}
theorem FzA.append : ∀ {vs ws : List V} {ds es : List D}, FzA K G vs ds → FzA K G ws es → FzA K G (vs ++ ws) (ds ++ es)
  | _, _, _, _, .nil, h => h
  | _, _, _, _, .cons a b, h => .cons a (b.append h)
theorem FzA.take : ∀ {vs : List V} {ds : List D} (n : Nat), FzA K G vs ds → FzA K G (vs.take n) (ds.take n)
  | _, _, 0, _ => by simp; exact .nil
  | _, _, _ + 1, .nil => by simp; exact .nil
  | _, _, n + 1, .cons a b => .cons a (b.take n)
theorem FzA.drop : ∀ {vs : List V} {ds : List D} (n : Nat), FzA K G vs ds → FzA K G (vs.drop n) (ds.drop n)
  | _, _, 0, h => h
  | _, _, _ + 1, .nil => .nil
  | _, _, n + 1, .cons _ b => b.drop n
theorem FzA.reverse : ∀ {vs : List V} {ds : List D}, FzA K G vs ds → FzA K G vs.reverse ds.reverse
  | _, _, .nil => .nil
  | _, _, .cons a b => by simpa using b.reverse.append (.cons a .nil)
theorem FzA.rep {vs : List V} {ds : List D} (h : FzA K G vs ds) : ∀ k : Nat, FzA K G (List.replicate k vs).flatten (List.replicate k ds).flatten
  | 0 => .nil
  | k + 1 => by simpa [List.replicate_succ] using h.append (h.rep k)
theorem FzA.ints : ∀ {vs : List V} {ns : List Int}, FzA K G vs (ns.map PyData.int) → vs = ns.map V.int
  | _, [], .nil => rfl
  | _, n :: ns, .cons a b => by cases a; rw [FzA.ints b]; rfl
theorem FzA.of_ints : ∀ (ns : List Int), FzA K G (ns.map V.int) (ns.map PyData.int)
  | [] => .nil
  | n :: ns => .cons (.int n) (of_ints ns)
theorem FzA.bls : ∀ {vs : List V} {ns : List Bool}, FzA K G vs (ns.map PyData.bool) → vs = ns.map V.bl
  | _, [], .nil => rfl
  | _, n :: ns, .cons a b => by cases a; rw [FzA.bls b]; rfl
end

/-! ### modes, slots, places -/
def R.bind {α β : Type} (r : R α) (k : α → Rho → R β) : R β := match r with
  | .ok a ρ => k a ρ
  | .exc x ρ => .exc x ρ
  | .bad => .bad
/-! ### the state -/
section
variable (K : PySem.W.Frag) (G H B : Hp)
end
section
variable {K : PySem.W.Frag} {L : L2.St} {B G G' H H' : Hp} {σ : L2.St} {ρ : Rho} {v : V} {d : D} {a : Addr}
theorem Cont.notTup {vs : List V} (c : Cont K G H a d) (h : H a = some (.tup vs)) : False := by
  cases c with
  | lst e _ => rw [h] at e; cases e
  | dK e _ => rw [h] at e; cases e
  | dT e _ => rw [h] at e; cases e
/-- a new list is frozen at once -/
theorem PlOk.fix {p : Pl} (r : Rel K L B σ ρ G H) (h : PlOk K B σ ρ G H v p) : ∃ G', Rel K L B σ ρ G' H ∧ Ext B G G' ∧ PlFx K σ G' v p := by
  cases p with
  | val d => exact ⟨G, r, .refl, h⟩
  | slot i => exact ⟨G, r, .refl, h⟩
  | tmp d =>
    obtain ⟨a, rfl, h1, h2, c, hs⟩ := h
    obtain ⟨o, ho⟩ := c.there
    obtain ⟨r', e⟩ := r.freeze h2 h1 ho hs
    exact ⟨_, r', e, c.frozen e.same (by rw [upd_same, ho])⟩
end
end TN
namespace TN
open PySem PySem.Spec PyProof.Rows L2

/-! ### tuples made where it is known that they have no dict of their own -/
theorem kt_new {P : Program} {w : World} {H : Hp} {h : Heap} {xs : List V} {its : List Value} (z : xs.length ≤ sizeLine) (r : Vals xs its) :
    ObjOk P w H (h.push { cls := .type "tuple", data := .seq its.toArray }) h.objs.size (.frz { cls := .type "tuple", data := .seq its.toArray } (.tup xs)) :=
  ⟨Heap.get?_push_size _ rfl, z, its, r, IsTup.new _ _⟩
/-- the end of what makes a tuple -/
theorem kt_end {X : Cx} {pins : List (Addr × Obj)} {σ : L2.St} {H : Hp} {s : Shared} {Q : VK} {xs : List V} {its : List Value} (I : Inv X pins σ H s) (z : xs.length ≤ sizeLine) (r : Vals xs its)
    (q : ∀ (p : Addr) (o : Obj), H p = none → o.dict = none → Q (.ref p) (upd H p (.frz o (.tup xs)))) :
    EP X pins σ Q (.ref s.heap.objs.size) { s with heap := s.heap.push { cls := .type "tuple", data := .seq its.toArray } } :=
  ⟨.ref s.heap.objs.size, _, I.laid (t' := s.toks) (o := .frz { cls := .type "tuple", data := .seq its.toArray } (.tup xs)) (fun b u e => Heap.get?_push_of_some _ e) (Nat.le_refl _) (kt_new z r), rfl, q _ _ (I.hok.fresh (Nat.le_refl _)) rfl⟩
def tTupK (t : TA) : TE := fun σ H Q => t σ H fun xs H1 => xs.length ≤ sizeLine ∧ ∀ (p : Addr) (o : Obj), H1 p = none → o.dict = none → Q (.ref p) (upd H1 p (.frz o (.tup xs)))
section
variable {X : Cx}
theorem pe_tupK {es : List Expr} {t : TA} {pos : Pos} {x1 : Nat} (h : PA X es t) : PE X (.Tuple es x1 pos) (tTupK t) :=
  ⟨fun pins s σ H Q I hq => wpAny_Tuple_spliced (thn (h.run pos pins s σ H _ I hq) fun us s1 hz => by
    obtain ⟨xs, H1, I1, r, z, q⟩ := hz
    exact ⟨by rw [← r.length]; exact z, kt_end I1 z r q⟩)⟩
/-- tuple(list): a new one; tuple(tuple): itself -/
def rTupK (K : PySem.W.Frag) : List V → Hp → VK → Prop := fun xs H Q => ∃ p ys, xs = [.ref p] ∧ ((SqL K H p ys ∧ ∀ (l : Addr) (o : Obj), H l = none → o.dict = none → Q (.ref l) (upd H l (.frz o (.tup ys)))) ∨ (SqT K H p ys ∧ Q (.ref p) H))
theorem cr_tupK : CallR X (.type "tuple") (rTupK X.K) := by
  intro pins s σ H xs us Q I r ⟨p, ys, ex, h⟩
  subst ex
  obtain ⟨u, rfl, rx⟩ := vals1 r
  cases rx
  rcases h with ⟨hq, q⟩ | ⟨hq, q⟩
  · obtain ⟨its, r2, pl, hz⟩ := I.list hq
    have hl := r2.length
    refine call_tuple_list pl.isList (fun h' kp => ?_) (by simp only [List.size_toArray] <;> omega)
    have I1 : Inv X pins σ H { s with heap := h' } := I.kept (t' := s.toks) kp
    exact kt_end I1 hz r2 q
  · obtain ⟨its, r2, pl, _⟩ := I.tuple hq
    exact call_tuple_same pl ⟨.ref p, H, I, rfl, q⟩
/-- two tuples put together -/
def rCatK (K : PySem.W.Frag) : R2 := fun x y H Q => ∃ a b xs ys, x = .ref a ∧ y = .ref b ∧ SqT K H a xs ∧ SqT K H b ys ∧ xs.length + ys.length ≤ sizeLine ∧
  (xs = [] → Q (.ref b) H) ∧ (xs ≠ [] → ys = [] → Q (.ref a) H) ∧ (xs ≠ [] → ys ≠ [] → ∀ (p : Addr) (o : Obj), H p = none → o.dict = none → Q (.ref p) (upd H p (.frz o (.tup (xs ++ ys)))))
theorem op_catK : OpR X (binaryOp .Add) (rCatK X.K) := by
  intro pins s σ H x y v u Q I rx ry ⟨a, b, xs, ys, ex, ey, ha, hb, hz, q0, q1, q2⟩
  subst ex ey
  by_cases hx : xs = []
  · exact op_catA pins s σ H _ _ v u Q I rx ry ⟨a, b, xs, ys, rfl, rfl, ha, hb, hz, q0, fun z => absurd hx z, fun z => absurd hx z⟩
  · by_cases hy : ys = []
    · exact op_catA pins s σ H _ _ v u Q I rx ry ⟨a, b, xs, ys, rfl, rfl, ha, hb, hz, fun z => absurd z hx, q1, fun _ z => absurd hy z⟩
    · cases rx
      cases ry
      obtain ⟨i1, r1, p1, _⟩ := I.tuple ha
      obtain ⟨i2, r2, p2, _⟩ := I.tuple hb
      refine HT.cat_tup p1 p2 (fun z => hx (r1.nil_iff.mp z)) (fun z => absurd (r2.nil_iff.mp z) hy) (fun _ => ?_) (by rw [← r1.length, ← r2.length]; exact hz)
      exact kt_end I (by rw [List.length_append]; exact hz) (r1.append r2) (q2 hx hy)
/-- t[lo:hi]: the whole of it is t itself -/
def rSlK (K : PySem.W.Frag) : V → Option Int → Option Int → Hp → VK → Prop := fun x lo hi H Q => ∃ a xs, x = .ref a ∧ SqT K H a xs ∧
  (HT.sIx xs.length 0 lo = 0 ∧ HT.sIx xs.length xs.length hi = xs.length → Q (.ref a) H) ∧ (¬ (HT.sIx xs.length 0 lo = 0 ∧ HT.sIx xs.length xs.length hi = xs.length) → ∀ (p : Addr) (o : Obj), H p = none → o.dict = none → Q (.ref p) (upd H p (.frz o (.tup (cutV xs lo hi)))))
theorem sl_tupK : SlR X (rSlK X.K) := by
  intro pins s σ H x v vl vu lo hi sl Q I rx hs pl pu ⟨a, xs, ex, hx, q1, q2⟩
  subst ex
  by_cases hw : HT.sIx xs.length 0 lo = 0 ∧ HT.sIx xs.length xs.length hi = xs.length
  · exact sl_tupA pins s σ H _ v vl vu lo hi sl Q I rx hs pl pu ⟨a, xs, rfl, hx, q1, fun z => absurd hw z⟩
  · cases rx
    obtain ⟨its, r, ht, hz⟩ := I.tuple hx
    have hl : its.toArray.size = xs.length := by rw [List.size_toArray]; exact r.length.symm
    refine ⟨"tuple", _, PyProof.Rows.slot_tuple_getitem.lookup, ht.typeIs, HT.getItem_tuple_cut ht hs pl pu (by rw [hl]; exact hw) ?_ (by rw [hl]; exact hz)⟩
    rw [hl]
    exact kt_end I (Nat.le_trans (cutV_length xs lo hi) hz) ((r.drop (HT.sIx xs.length 0 lo)).take (HT.sIx xs.length xs.length hi - HT.sIx xs.length 0 lo)) (q2 hw)
def tBMK (K : PySem.W.Frag) (r : V → List V → Hp → VK → Prop) (to : TE) (t : TA) : TE := fun σ H Q => to σ H fun x H1 => KtV K x H1 ∧ t σ H1 fun xs H2 => r x xs H2 Q
theorem pe_bmK {o e : Expr} {es : List Expr} {to : TE} {t : TA} {name : Str} {apos cpos : Pos} {id : String} {r : V → List V → Hp → VK → Prop} (pa : PlainAttrs "tuple") (slot : PySem.Slot "tuple" name id) (hty : typeOf (.builtin id) = pure (.type "method_descriptor")) (hm : MtR X id r) (ho : PE X o to) (ha : PA X (e :: es) t)
    (hbase : attributeBase o name X.env (eval o X.env) = eval o X.env := by rfl)
    (hfew : ((backTo cpos (starEach (e :: es) X.env)).all (fun x => !x.1) && (backToKw cpos (keywordEach [] X.env)).all (fun x => x.1.isSome)
      && decide ((e :: es).length + ([] : List Keyword).length + (if ([] : List Keyword).isEmpty then 0 else 1) < 30)) = true := by rfl)
    (hline : (apos.endLine == cpos.line) = true := by rfl) (hs : starEach (e :: es) X.env = (false, eval e X.env) :: starEach es X.env := by rfl) (hplain : (backTo cpos (starEach es X.env)).any (·.1) = false := by rfl) :
    PE X (.Call (.Attribute o name apos) (e :: es) [] cpos) (tBMK X.K r to t) := by
  refine ⟨fun pins s σ H Q I h => wpAny_Call_method_late hbase hfew hline rfl (thn (ho.run pins s σ H _ I h) fun v s1 hz => ?_)⟩
  obtain ⟨x, H1, I1, r1, ty, q1⟩ := hz
  obtain ⟨y1, y2⟩ := KtV.is I1 r1 ty
  refine ⟨"tuple", id, pa, slot, hty, y1, y2, ?_⟩
  have hA := ha.run cpos pins s1 σ H1 _ I1 q1
  rw [hs] at hA ⊢
  refine Calls.callWith_builtin (by show (false || (backTo cpos (starEach es X.env)).any (·.1)) = false; rw [hplain] <;> rfl) (Calls.evalArgs_plain (thn hA fun us s2 hz => ?_))
  obtain ⟨vs, H2, I2, r2, q2⟩ := hz
  exact hm pins s2 σ H2 x vs v us Q I2 r1 r2 q2
/-- t.index(k), k a whole number that is there -/
def rTIx (K : PySem.W.Frag) : V → List V → Hp → VK → Prop := fun x xs H Q => ∃ (p : Addr) (ns : List Int) (k : Int), x = .ref p ∧ xs = [.int k] ∧ SqT K H p (ns.map V.int) ∧ k ∈ ns ∧ Q (.int (ns.idxOf k : Nat)) H
theorem mt_tIx : MtR X "tuple.index" (rTIx X.K) := by
  intro pins s σ H x xs v us Q I rx rxs ⟨p, ns, k, ex, ey, hT, hk, q⟩
  subst ex ey
  cases rx
  obtain ⟨u, rfl, ru⟩ := vals1 rxs
  obtain ⟨t, rfl⟩ := ru
  obtain ⟨its, r, tp, _⟩ := I.tuple hT
  exact SeqAt.tuple_index_ints tp (intsAre_of r) hk ⟨.int (ns.idxOf k : Nat), H, I.kept (t' := s.toks + 1) fun _ _ e => e, ⟨_, rfl⟩, q⟩
end
end TN
namespace TN
open PySem PySem.Spec PyProof.Rows L2

/-! ### dicts whose keys are tuples of whole numbers, the keys' addresses known -/
theorem hash_ints (P P' : Program) (w w' : World) {ks : List Key} (h : ∀ k ∈ ks, ∃ i : Int, k = .inl i) : (tupleKind (mixKind P w)).hash ks = (tupleKind (mixKind P' w')).hash ks := by
  have e : ks.map (mixKind P w).hash = ks.map (mixKind P' w').hash := List.map_congr_left fun k hk => by
    obtain ⟨i, rfl⟩ := h k hk
    rfl
  show tupleKeyHash (mixKind P w) ks = tupleKeyHash (mixKind P' w') ks
  unfold tupleKeyHash
  rw [e]
theorem key_kt {P : Program} {w : World} {H : Hp} {h : Heap} {b : Addr} {ks : List Key} (ok : HOk P w H h) (k : Kt H b (ks.map kV)) : (tupleKind (mixKind P w)).is h ks b := by
  obtain ⟨u, e, _⟩ := k
  obtain ⟨_, _, its, r, o, h1, h2, n, h3⟩ := (show ObjOk P w H h b (.frz u (.tup (ks.map kV))) from ok b _ e)
  exact ⟨o, its.toArray, n, h1, h2, h3, by simpa using items_are r⟩
theorem PRT.mem {rs : List RowT} {xs : List (List Key × Addr × Value)} (r : PRT rs xs) : ∀ x ∈ xs, ∃ p ∈ rs, p.1 = x.1 ∧ p.2.1 = x.2.1 := by
  induction r with
  | nil => intro x hx; cases hx
  | @cons p q ps qs h t ih =>
    intro x hx
    rcases List.mem_cons.mp hx with e | hx
    · subst e; exact ⟨p, List.mem_cons_self .., h.1, h.2.1⟩
    · obtain ⟨p', hp, e⟩ := ih x hx
      exact ⟨p', List.mem_cons_of_mem _ hp, e⟩
theorem entries_any {P P' : Program} {w w' : World} {xs : List (List Key × Addr × Value)} (h : ∀ x ∈ xs, ∀ k ∈ x.1, ∃ i : Int, k = .inl i) : xs.map (entryOfKey (tupleKind (mixKind P' w'))) = xs.map (entryOfKey (tupleKind (mixKind P w))) :=
  List.map_congr_left fun x hx => by
    unfold entryOfKey
    rw [hash_ints P' P w' w (h x hx)]
theorem dtx_of {P : Program} {w : World} {H : Hp} {h : Heap} {a : Addr} {rs : List RowT} (ok : HOk P w H h) (e : H a = some (dtO a rs)) (kt : ∀ r ∈ rs, Kt H r.2.1 (r.1.map kV)) :
    rs.length ≤ sizeLine ∧ (a == sysModules) = false ∧ (∀ r ∈ rs, ∀ k ∈ r.1, ∃ i : Int, k = .inl i) ∧ ∃ xs, PRT rs xs ∧ h.DictOfH (tupleKind (mixKind P w)) a xs := by
  obtain ⟨⟨z, y, hi, P', w', xs, r, o, es, ep, h1, h2, h3, h4, h5⟩, _, _⟩ := (show ObjOk P w H h a (.ext (RawT a rs)) from ok a _ e)
  refine ⟨z, y, hi, xs, r, o, es, ep, h1, h2, h3, ?_, fun x hx => ?_, h5⟩
  · rw [h4]
    refine entries_any fun x hx => ?_
    obtain ⟨p, hp, e1, _⟩ := r.mem x hx
    rw [← e1]; exact hi p hp
  · obtain ⟨p, hp, e1, e2⟩ := r.mem x hx
    rw [← e1, ← e2]
    exact key_kt ok (kt p hp)
def putR (rs : List RowT) (k : List Key) (b : Addr) (v : V) : List RowT := if (valV (rowsV rs) k).isSome = true then rs.map (fun r => if r.1 = k then (r.1, r.2.1, v) else r) else rs ++ [(k, b, v)]
theorem putR_len (rs : List RowT) (k : List Key) (b : Addr) (v : V) : (putR rs k b v).length ≤ rs.length + 1 := by
  unfold putR
  split <;> simp
theorem PRT.repl {rs : List RowT} {xs : List (List Key × Addr × Value)} (r : PRT rs xs) (k : List Key) {y : V} {u : Value} (ry : RelV y u) :
    PRT (rs.map fun r => if r.1 = k then (r.1, r.2.1, y) else r) (xs.map (putAt k u)) := by
  induction r with
  | nil => exact .nil
  | @cons p q ps qs h t ih =>
    rw [List.map_cons, List.map_cons]
    refine .cons ?_ ih
    obtain ⟨h1, h2, h3⟩ := h
    unfold putAt
    by_cases e : p.1 = k
    · rw [if_pos e, if_pos (h1.symm.trans e)]; exact ⟨h1, h2, ry⟩
    · rw [if_neg e, if_neg (fun z => e (h1.trans z))]; exact ⟨h1, h2, h3⟩
theorem PRT.put {rs : List RowT} {xs : List (List Key × Addr × Value)} (r : PRT rs xs) (k : List Key) (b : Addr) {y : V} {u : Value} (ry : RelV y u) : PRT (putR rs k b y) (storedH xs k b u) := by
  have e := (r.val k).isSome_eq
  rw [Option.isSome_map] at e
  unfold putR storedH
  rw [e]
  by_cases q : (atKey xs k).isSome = true
  · rw [if_pos q, if_pos q]; exact r.repl k ry
  · rw [if_neg q, if_neg q]; exact Paired.snoc r ⟨rfl, rfl, ry⟩
theorem putR_ints {rs : List RowT} {k : List Key} {b : Addr} {v : V} (h : ∀ r ∈ rs, ∀ k ∈ r.1, ∃ i : Int, k = .inl i) (hk : ∀ x ∈ k, ∃ i : Int, x = .inl i) : ∀ r ∈ putR rs k b v, ∀ k ∈ r.1, ∃ i : Int, k = .inl i := by
  intro r hr
  unfold putR at hr
  split at hr
  · obtain ⟨p, hp, rfl⟩ := List.mem_map.mp hr
    split
    · exact h p hp
    · exact h p hp
  · rcases List.mem_append.mp hr with z | z
    · exact h r z
    · have : r = (k, b, v) := by simpa using z
      subst this; exact hk
theorem dto_new {P : Program} {w : World} {H : Hp} {h : Heap} {a : Addr} {rs : List RowT} {xs : List (List Key × Addr × Value)} (z : rs.length ≤ sizeLine) (y : (a == sysModules) = false) (hi : ∀ r ∈ rs, ∀ k ∈ r.1, ∃ i : Int, k = .inl i) (r : PRT rs xs)
    (d : h.DictOfH (tupleKind (mixKind P w)) a xs) : ObjOk P w H h a (dtO a rs) := by
  obtain ⟨o, es, ep, h1, h2, h3, h4, _, h5⟩ := d
  refine ⟨⟨z, y, hi, P, w, xs, r, o, es, ep, h1, h2, h3, h4, h5⟩, ⟨o, h1⟩, fun g1 g2 q keep => ?_⟩
  obtain ⟨z, y, hi, P', w', xs', r', o', es', ep', k1, k2, k3, k4, k5⟩ := q
  exact ⟨z, y, hi, P', w', xs', r', o', es', ep', keep _ k1, k2, k3, k4, k5⟩
theorem dto_empty {P : Program} {w : World} {H : Hp} (h : Heap) (hb : sysModules < h.objs.size) : ObjOk P w H (h.push { cls := .type "dict", data := .dict #[] }) h.objs.size (dtO h.objs.size []) :=
  dto_new (xs := []) (Nat.zero_le _) (beq_eq_false_iff_ne.mpr (Ne.symm (Nat.ne_of_lt hb))) (fun r hr => by cases hr) .nil ⟨_, #[], 0, Heap.get?_push_size _ rfl, ⟨rfl, rfl, rfl⟩, rfl, rfl, (fun x hx => by cases hx), List.nodup_nil⟩
def tDNewX : TE := fun _ H Q => ∀ p, H p = none → Q (.ref p) (upd H p (dtO p []))
theorem pe_dnewX {X : Cx} {pos : Pos} : PE X (.Dict [] [] pos) tDNewX := ⟨fun pins s σ H Q I h =>
  wpAny_Dict_empty ⟨.ref s.heap.objs.size, _, I.laid (a := s.heap.objs.size) (o := dtO s.heap.objs.size []) (t' := s.toks) (fun _ _ q => Heap.get?_push_of_some _ q) (Nat.le_refl _) (dto_empty s.heap I.big), rfl, h _ (I.hok.fresh (Nat.le_refl _))⟩⟩
def DPX (H : Hp) (a : Addr) (y v : V) (H' : Hp) : Prop := ∃ rs k b, H a = some (dtO a rs) ∧ (∀ r ∈ rs, Kt H r.2.1 (r.1.map kV)) ∧ y = .ref b ∧ Kt H b (k.map kV) ∧ (∀ x ∈ k, ∃ i : Int, x = .inl i) ∧ rs.length < sizeLine ∧ H' = upd H a (dtO a (putR rs k b v))
section
variable {X : Cx} {pins : List (Addr × Obj)} {σ : L2.St} {H : Hp} {s : Shared} {a : Addr} {y v : V} {u r : Value} {o : Option V} {A : Around} {E : Value → Shared → Prop}
theorem dg_typeIs (I : Inv X pins σ H s) (g : DG H a y o) : s.TypeIs (.ref a) "dict" := by
  rcases g with g | ⟨rs, k, b, e, kt, _⟩
  · exact dict_typeIs I g
  · obtain ⟨_, _, _, xs, _, dd⟩ := dtx_of I.hok e kt
    exact dd.typeIs
theorem dg_getItem {Q : Value → Shared → Prop} (hu : A.units + 1 < cLine) (I : Inv X pins σ H s) (g : DG H a y (some v)) (ry : RelV y u) (h : ∀ w' s', Inv X pins σ H s' → RelV v w' → Q w' s') :
    wpAny (model X.prog X.w) A (getItem (.ref a) u) Q E s := by
  rcases g with g | ⟨rs, k, b, e, kt, ey, kb, l⟩
  · exact d_getItem hu I g ry h
  · subst ey
    cases (show u = Value.ref b from ry)
    obtain ⟨_, _, _, xs, rel, dd⟩ := dtx_of I.hok e kt
    obtain ⟨w', hw, rw'⟩ := RelO.some_of (v := v) (o := (atKey xs k).map (·.2)) (by rw [l]; exact rel.val k)
    obtain ⟨p, hp, hp2⟩ := Option.map_eq_some_iff.mp hw
    refine wpAny_getItem_heap (tupleKind_room_in1 hu) (key_kt I.hok kb) dd hp ?_
    rw [hp2]
    exact h w' _ (I.tok _) rw'
theorem dg_in {Q : Value → Shared → Prop} (hu : A.units + 1 < cLine) (I : Inv X pins σ H s) (g : DG H a y o) (ry : RelV y u) (h : ∀ s', Inv X pins σ H s' → Q (.bool o.isSome) s') :
    wpAny (model X.prog X.w) A (compareOp .In u (.ref a)) Q E s := by
  rcases g with g | ⟨rs, k, b, e, kt, ey, kb, l⟩
  · exact d_in hu I g ry h
  · subst ey
    cases (show u = Value.ref b from ry)
    obtain ⟨_, hd, _, xs, rel, dd⟩ := dtx_of I.hok e kt
    refine wpAny_in_heap (tupleKind_room_in1 hu) (key_kt I.hok kb) hd dd ?_
    have q := (rel.val k).isSome_eq
    rw [Option.isSome_map] at q
    rw [← q, ← l]
    exact h _ (I.tok _)
theorem dg_notIn {Q : Value → Shared → Prop} (hu : A.units + 1 < cLine) (I : Inv X pins σ H s) (g : DG H a y o) (ry : RelV y u) (h : ∀ s', Inv X pins σ H s' → Q (.bool (!o.isSome)) s') :
    wpAny (model X.prog X.w) A (compareOp .NotIn u (.ref a)) Q E s := by
  rcases g with g | ⟨rs, k, b, e, kt, ey, kb, l⟩
  · exact d_notIn hu I g ry h
  · subst ey
    cases (show u = Value.ref b from ry)
    obtain ⟨_, hd, _, xs, rel, dd⟩ := dtx_of I.hok e kt
    refine wpAny_notIn_heap (tupleKind_room_in1 hu) (key_kt I.hok kb) hd dd ?_
    have q := (rel.val k).isSome_eq
    rw [Option.isSome_map] at q
    rw [← q, ← l]
    exact h _ (I.tok _)
theorem dg_setItem {H' : Hp} {Q : Unit → Shared → Prop} (hu : A.units + 1 < cLine) (I : Inv X pins σ H s) (g : DPX H a y v H') (ry : RelV y u) (rv : RelV v r) (h : ∀ s', Inv X pins σ H' s' → Q () s') :
    wpAny (model X.prog X.w) A (setItem (.ref a) u r) Q E s := by
  obtain ⟨rs, k, b, e, kt, ey, kb, ki, l, eH⟩ := g
  subst ey eH
  cases (show u = Value.ref b from ry)
  obtain ⟨z, hd, hi, xs, rel, dd⟩ := dtx_of I.hok e kt
  have hz : xs.length ≤ sizeLine := by rw [← rel.length]; exact z
  have hl : (putR rs k b v).length ≤ sizeLine := by have := putR_len rs k b v; omega
  refine wpAny_setItem_heap (hsz := hz) (tupleKind_room_in1 hu) (key_kt I.hok kb) dd fun h' dd' hs => h _ ?_
  have he : ∃ q, h'.get? a = some q := let ⟨q, _, _, hq, _⟩ := dd'; ⟨q, hq⟩
  exact d_write I (by rw [e]; exact True.intro) hs he (dto_new hl hd (putR_ints hi ki) (rel.put k b rv) dd')
end
/-- o[i] = v -/
def rSetX : TSet := fun o i v H Q => ∃ a H', o = .ref a ∧ DPX H a i v H' ∧ Q H'
theorem set_dictX {X : Cx} (hu : X.A.units + 1 < cLine) : PSet X rSetX := by
  intro pins s σ H o i v ov iv u Q I ro ri rv h
  obtain ⟨a, H', eo, g, q⟩ := h
  subst eo
  cases (show ov = Value.ref a from ro)
  exact dg_setItem hu I g ri rv fun s' I' => ⟨H', I', q⟩
/-- len(d) -/
def rLenX : List V → Hp → VK → Prop := fun xs H Q => ∃ (p : Addr) (rs : List RowT), xs = [.ref p] ∧ H p = some (dtO p rs) ∧ (∀ r ∈ rs, Kt H r.2.1 (r.1.map kV)) ∧ Q (.int ((rs.length : Nat) : Int)) H
theorem call_len_dX {X : Cx} : CallR X (.builtin "len") rLenX := by
  intro pins s σ H xs us Q I r h
  obtain ⟨p, rs, rfl, hp, kt, q⟩ := h
  obtain ⟨u, rfl, rx⟩ := vals1 r
  obtain rfl : u = .ref p := rx
  obtain ⟨z, hd, _, ys, rel, dd⟩ := dtx_of I.hok hp kt
  have hl : rs.length = ys.length := rel.length
  refine call_len_dictH hd dd (by rw [← hl]; rw [sizeLine_eq] at z; omega) ?_
  rw [← hl]
  exact ⟨.int ((rs.length : Nat) : Int), H, I.tok _, ⟨_, rfl⟩, q⟩
/-- isinstance(d, c) -/
def rIsiD (K : PySem.W.Frag) : List V → Hp → VK → Prop := fun xs H Q => ∃ (a : Addr) (rs : List RowT) (c : V) (u : Value) (b : Bool), xs = [.ref a, c] ∧ ClsV c u ∧ H a = some (dtO a rs) ∧ PySem.W.kitOne K (.type "dict") u = some b ∧ Q (.bl b) H
theorem call_isiD {X : Cx} : CallR X (.builtin "isinstance") (rIsiD X.K) := by
  intro pins s σ H xs us Q I r h
  obtain ⟨a, rs, c, u, b, rfl, k, x, e, q⟩ := h
  obtain ⟨u1, u2, rfl, r1, r2⟩ := vals2 r
  have e2 := k.eq r2
  subst e2
  cases (show u1 = Value.ref a from r1)
  obtain ⟨⟨_, _, _, _, _, _, _, o, _, _, h1, h2, _⟩, _, _⟩ := (show ObjOk X.prog X.w H s.heap a (.ext (RawT a rs)) from I.hok a _ x)
  exact PySem.W.kia_one PySem.W.kitx_dict I.kIn ⟨o, h1, h2.1⟩ e (fun z => nomatch z) fun tk => ⟨.bl b, H, I.tok tk, rfl, q⟩
/-! d.get(y, z) -/
end TN
namespace TN
open PySem PySem.Spec PyProof.Rows L2

/-! ### what a computation gave -/
abbrev GotB (X : Cx) (L : L2.St) (W : WX) (σ : L2.St) (G B : Hp) (r : R Bool) (Q : Bool → Hp → Prop) : Prop := Got X L W σ G B (fun b _ _ _ b' => b' = b) r Q
abbrev GotA (X : Cx) (L : L2.St) (W : WX) (σ : L2.St) (G B : Hp) (r : R (List Pl)) (Q : List V → Hp → Prop) : Prop := Got X L W σ G B (fun ps _ G' _ vs => PlA X.K σ G' vs ps) r Q
def tX (X : Cx) (W : WX) (c : CE) : TE := fun σ H Q => ∃ (L : L2.St) (ρ : Rho) (G B : Hp), Rel X.K L B σ ρ G H ∧ GotP X L W σ G B (c ρ) Q
def tT (X : Cx) (W : WX) (c : CB) : TT := fun σ H Q => ∃ (L : L2.St) (ρ : Rho) (G B : Hp), Rel X.K L B σ ρ G H ∧ GotB X L W σ G B (c ρ) Q
def tA (X : Cx) (W : WX) (c : CA) : TA := fun σ H Q => ∃ (L : L2.St) (ρ : Rho) (G B : Hp), Rel X.K L B σ ρ G H ∧ GotA X L W σ G B (c ρ) Q
def SX (X : Cx) (e : Expr) (c : CE) : Prop := ∀ W : WX, Takes X W → PE X e (tX X W c)
def ST (X : Cx) (e : Expr) (c : CB) : Prop := ∀ W : WX, Takes X W → PT X e (tT X W c)
def SW (X : Cx) (e : Expr) (c : CB) : Prop := ∀ W : WX, Takes X W → PW X e (tT X W c)
def SA (X : Cx) (es : List Expr) (c : CA) : Prop := ∀ W : WX, Takes X W → PA X es (tA X W c)

theorem PEimp {X : Cx} {e : Expr} {t t' : TE} (h : PE X e t) (w : ∀ σ H Q, t' σ H Q → t σ H Q) : PE X e t' := ⟨fun pins s σ H Q I q => h.run pins s σ H Q I (w _ _ _ q)⟩
theorem PTimp {X : Cx} {e : Expr} {t t' : TT} (h : PT X e t) (w : ∀ σ H Q, t' σ H Q → t σ H Q) : PT X e t' := ⟨fun pins s σ H Q I q => h.run pins s σ H Q I (w _ _ _ q)⟩
theorem PWimp {X : Cx} {e : Expr} {t t' : TT} (h : PW X e t) (w : ∀ σ H Q, t' σ H Q → t σ H Q) : PW X e t' := ⟨fun wh pins s σ H Q I q => h.run wh pins s σ H Q I (w _ _ _ q)⟩
theorem PAimp {X : Cx} {e : List Expr} {t t' : TA} (h : PA X e t) (w : ∀ σ H Q, t' σ H Q → t σ H Q) : PA X e t' := ⟨fun pos pins s σ H Q I q => h.run pos pins s σ H Q I (w _ _ _ q)⟩
theorem PSimp {X : Cx} {e : Stmt} {t t' : TS} (h : PS X e t) (w : ∀ D σ H, t' D σ H → t D σ H) : PS X e t' := ⟨fun pins s σ H D I q => h.run pins s σ H D I (w _ _ _ q)⟩
theorem PSsimp {X : Cx} {e : List Stmt} {t t' : TS} (h : PSs X e t) (w : ∀ D σ H, t' D σ H → t D σ H) : PSs X e t' := ⟨fun pins s σ H D I q => h.run pins s σ H D I (w _ _ _ q)⟩

section
variable {X : Cx} {L : L2.St} {W : WX} {σ : L2.St} {G G1 B H : Hp}
theorem Got.shift {α β : Type} {P : α → Rho → Hp → Hp → β → Prop} {r : R α} {Q : β → Hp → Prop} (e : Ext B G G1) (h : Got X L W σ G B P r Q) : Got X L W σ G1 B P r Q := by
  cases r with
  | ok a ρ' => exact fun b H' G' rel ext p => h b H' G' rel (e.trans ext) p
  | exc x ρ' => exact fun c d H' G' rel ext p => h c d H' G' rel (e.trans ext) p
  | bad => exact h
/-- behind an expression: its value fixed, the rest -/
theorem Got.bind {γ δ : Type} {P : γ → Rho → Hp → Hp → δ → Prop} {r : R Pl} {k : Pl → Rho → R γ} {Q : δ → Hp → Prop} (h : Got X L W σ G B P (r.bind k) Q) :
    GotP X L W σ G B r (fun v H1 => ∃ (p : Pl) (ρ1 : Rho) (G1 : Hp), r = .ok p ρ1 ∧ Rel X.K L B σ ρ1 G1 H1 ∧ Ext B G G1 ∧ PlFx X.K σ G1 v p ∧ Got X L W σ G1 B P (k p ρ1) fun d H2 => Q d H2) := by
  cases r with
  | ok p ρ1 =>
    intro v H' G' rel ext ok
    obtain ⟨G2, r2, e2, fx⟩ := ok.fix rel
    exact ⟨p, ρ1, G2, rfl, r2, ext.trans e2, fx, Got.shift (ext.trans e2) h⟩
  | exc x ρ' => exact h
  | bad => exact h
theorem Got.bindB {γ δ : Type} {P : γ → Rho → Hp → Hp → δ → Prop} {r : R Bool} {k : Bool → Rho → R γ} {Q : δ → Hp → Prop} (h : Got X L W σ G B P (r.bind k) Q) :
    GotB X L W σ G B r (fun b H1 => ∃ (ρ1 : Rho) (G1 : Hp), r = .ok b ρ1 ∧ Rel X.K L B σ ρ1 G1 H1 ∧ Ext B G G1 ∧ Got X L W σ G1 B P (k b ρ1) fun d H2 => Q d H2) := by
  cases r with
  | ok p ρ1 =>
    intro v H' G' rel ext ok
    subst ok
    exact ⟨ρ1, G', rfl, rel, ext, Got.shift ext h⟩
  | exc x ρ' => exact h
  | bad => exact h
theorem Got.bindA {γ δ : Type} {P : γ → Rho → Hp → Hp → δ → Prop} {r : R (List Pl)} {k : List Pl → Rho → R γ} {Q : δ → Hp → Prop} (h : Got X L W σ G B P (r.bind k) Q) :
    GotA X L W σ G B r (fun vs H1 => ∃ (ps : List Pl) (ρ1 : Rho) (G1 : Hp), r = .ok ps ρ1 ∧ Rel X.K L B σ ρ1 G1 H1 ∧ Ext B G G1 ∧ PlA X.K σ G1 vs ps ∧ Got X L W σ G1 B P (k ps ρ1) fun d H2 => Q d H2) := by
  cases r with
  | ok p ρ1 =>
    intro v H' G' rel ext ok
    exact ⟨p, ρ1, G', rfl, rel, ext, ok, Got.shift ext h⟩
  | exc x ρ' => exact h
  | bad => exact h
end

/-! ### new values -/
theorem Post.lst {K : PySem.W.Frag} {G H : Hp} {p : Addr} {vs : List V} {ds : List D} (h : H p = none) (x : FzA K G vs ds) : Post K G H (.ref p) (upd H p (.lst vs)) (.tmp (.list ds)) :=
  .tmp h (.lst upd_same x)
section
variable {X : Cx} {L : L2.St} {W : WX} {σ : L2.St} {ρ : Rho} {G G1 B H H' : Hp} {v : V} {p : Pl}
end
def R.ofOpt (o : Option Pl) (ρ : Rho) : R Pl := match o with
  | some p => .ok p ρ
  | none => .bad

/-! ### names, constants -/
def cVar (i : Nat) : CE := fun ρ => match ρ[i]? with
  | some (some (d, .fz)) => .ok (.val d) ρ
  | some (some (d, .lz)) => .ok (.val d) ρ
  | some (some (_, .own)) => .ok (.slot i) ρ
  | some (some (_, .lent)) => .ok (.slot i) ρ
  | _ => .bad
def cLit (d : D) : CE := fun ρ => .ok (.val d) ρ
section
variable {X : Cx} {e a b : Expr} {ca cb : CE} {pos : Pos}
theorem sx_var (i : Nat) {x : Str} {pos : Pos} (hN : X.N[i]? = some x := by rfl) (hv : Vis X.env.scope x := by first | exact Or.inl rfl | exact Or.inr (Or.inl rfl) | exact Or.inr (Or.inr rfl)) (hd : (x == ("__debug__" : Str)) = false := by decide)
    (hcd : (x == ("__classdict__" : Str)) = false := by decide) : SX X (.Name x pos) (cVar i) := fun W _ => PEimp (pe_var hN hv hd hcd) (by
  rintro σ H Q ⟨L, ρ, G, B, rel, h⟩
  unfold cVar at h
  split at h
  · rename_i d q
    obtain ⟨v, h1, h2⟩ := rel.slots i _ q
    exact ⟨v, h1, h v H G rel .refl h2⟩
  · rename_i d q
    obtain ⟨v, h1, h2⟩ := rel.slots i _ q
    exact ⟨v, h1, h v H G rel .refl h2⟩
  · rename_i d q
    obtain ⟨v, h1, h2⟩ := rel.slots i _ q
    exact ⟨v, h1, h v H G rel .refl h1⟩
  · rename_i d q
    obtain ⟨v, h1, h2⟩ := rel.slots i _ q
    exact ⟨v, h1, h v H G rel .refl h1⟩
  · exact h.elim)
theorem sx_const {v : V} {d : D} (hp : PE X e (tC v)) (hf : ∀ G, Fz X.K G v d) : SX X e (cLit d) := fun W _ => PEimp hp (by
  rintro σ H Q ⟨L, ρ, G, B, rel, h⟩
  exact h v H G rel .refl (hf G))
theorem sx_int {i : Int} {j : Nat} : SX X (.Constant (.int i) j pos) (cLit (.int i)) := sx_const pe_int fun _ => .int i
theorem sx_bl {b : Bool} {j : Nat} : SX X (.Constant (.bool b) j pos) (cLit (.bool b)) := sx_const pe_bl fun _ => .bl b
theorem sx_str {x : Str} {j : Nat} : SX X (.Constant (.str x) j pos) (cLit (.str x)) := sx_const pe_str fun _ => .str x
/-- a module's int -/
theorem sx_gint {x : Str} {i : Int} (hg : Gl X x) (hm : ∃ t, X.mg x = some (.int i t)) (hd : (x == ("__debug__" : Str)) = false := by decide) : SX X (.Name x pos) (cLit (.int i)) := by
  obtain ⟨t, hm⟩ := hm
  exact sx_const (v := .int i) (pe_glob hg hm ⟨t, rfl⟩ hd) fun _ => .int i
end

/-! ### operations of one and two values -/
def OpOk (K : PySem.W.Frag) (r : R2) (f : D → D → Option Pl) : Prop := ∀ (G H : Hp) (x y : V) (dx dy : D) (p : Pl) (Q : VK), Same G H → Vw K G H x dx → Vw K G H y dy → f dx dy = some p → (∀ v H', Post K G H v H' p → Q v H') → r x y H Q
def UnOk (K : PySem.W.Frag) (r : V → Hp → VK → Prop) (f : D → Option Pl) : Prop := ∀ (G H : Hp) (x : V) (dx : D) (p : Pl) (Q : VK), Same G H → Vw K G H x dx → f dx = some p → (∀ v H', Post K G H v H' p → Q v H') → r x H Q
def cBin (f : D → D → Option Pl) (a b : CE) : CE := fun ρ => (a ρ).bind fun p ρ1 => (b ρ1).bind fun q ρ2 => match look p ρ2, look q ρ2 with
  | some x, some y => .ofOpt (f x y) ρ2
  | _, _ => .bad
def cUn (f : D → Option Pl) (a : CE) : CE := fun ρ => (a ρ).bind fun p ρ1 => match look p ρ1 with
  | some x => .ofOpt (f x) ρ1
  | none => .bad
section
variable {X : Cx} {e a b : Expr} {ca cb : CE} {pos : Pos} {f : D → D → Option Pl} {g : D → Option Pl} {r : R2} {r1 : V → Hp → VK → Prop}
theorem bin_imp {W : WX} (hr : OpOk X.K r f) : ∀ (σ : L2.St) (H : Hp) (Q : VK), tX X W (cBin f ca cb) σ H Q → tOp r (tX X W ca) (tX X W cb) σ H Q := by
  rintro σ H Q ⟨L, ρ, G, B, rel, h⟩
  refine ⟨L, ρ, G, B, rel, (Got.bind h).mono ?_⟩
  rintro x H1 ⟨p, ρ1, G1, _, rel1, _, fx1, h1⟩
  refine ⟨L, ρ1, G1, B, rel1, (Got.bind h1).mono ?_⟩
  rintro y H2 ⟨q, ρ2, G2, _, rel2, ext2, fx2, h2⟩
  cases e1 : look p ρ2 with
  | none => rw [e1] at h2; exact h2.elim
  | some dx =>
    cases e2 : look q ρ2 with
    | none => rw [e1, e2] at h2; exact h2.elim
    | some dy =>
      rw [e1, e2] at h2
      cases e3 : f dx dy with
      | none =>
        simp only [e3] at h2; exact h2.elim
      | some pl =>
        simp only [e3] at h2
        exact hr G2 H2 x y dx dy pl Q rel2.sub ((fx1.mono ext2.same).look rel2 e1) (fx2.look rel2 e2) e3 fun v H' ps => Got.done rel2 h2 ps
theorem sx_bin {op : Operator} (ho : OpR X (binaryOp op) r) (hr : OpOk X.K r f) (ha : SX X a ca) (hb : SX X b cb) : SX X (.BinOp a op b pos) (cBin f ca cb) := fun W tk =>
  PEimp (pe_op ho (ha W tk) (hb W tk)) (bin_imp hr)
theorem sx_cmp {op : CmpOp} (ho : OpR X (compareOp op) r) (hr : OpOk X.K r f) (ha : SX X a ca) (hb : SX X b cb) (hm : behindInMarks op b = false := by first | exact nomark _ | with_unfolding_all rfl) : SX X (.Compare a [op] [b] pos) (cBin f ca cb) := fun W tk =>
  PEimp (pe_cmpR ho (ha W tk) (hb W tk) hm) (bin_imp hr)
theorem sx_ix (hi : IxR X r) (hr : OpOk X.K r f) (ha : SX X a ca) (hb : SX X b cb) (hs : PlainIx b := by exact fun _ _ => rfl) : SX X (.Subscript a b pos) (cBin f ca cb) := fun W tk =>
  PEimp (pe_ix hi (ha W tk) (hb W tk) hs) (bin_imp hr)
theorem sx_un {op : UnaryOp} (ho : UnR X (unaryOp op) r1) (hr : UnOk X.K r1 g) (ha : SX X a ca) : SX X (.UnaryOp op a pos) (cUn g ca) := fun W tk => PEimp (pe_un ho (ha W tk)) (by
  rintro σ H Q ⟨L, ρ, G, B, rel, h⟩
  refine ⟨L, ρ, G, B, rel, (Got.bind h).mono ?_⟩
  rintro x H1 ⟨p, ρ1, G1, _, rel1, _, fx1, h1⟩
  cases e1 : look p ρ1 with
  | none => simp only [e1] at h1; exact h1.elim
  | some dx =>
    simp only [e1] at h1
    cases e3 : g dx with
    | none => simp only [e3] at h1; exact h1.elim
    | some pl =>
      simp only [e3] at h1
      exact hr G1 H1 x dx pl Q rel1.sub (fx1.look rel1 e1) e3 fun v H' ps => Got.done rel1 h1 ps)
/-- a comparison as a test -/
def cTst (c : CE) : CB := fun ρ => (c ρ).bind fun p ρ1 => match look p ρ1 with
  | some (.bool b) => .ok b ρ1
  | _ => .bad
theorem Vw.non {K : PySem.W.Frag} {G H : Hp} {v : V} (h : Vw K G H v .none) : v = .non := by
  rcases h with h | ⟨a, _, h⟩
  · cases h; rfl
  · cases h
theorem Vw.tup {K : PySem.W.Frag} {G H : Hp} {v : V} {ds : List D} (s : Same G H) (h : Vw K G H v (.tuple ds)) : ∃ a xs, v = .ref a ∧ Kt G a xs ∧ SqT K H a xs ∧ FzA K G xs ds := by
  rcases h with h | ⟨a, _, h⟩
  · cases h with
    | tup h1 h2 => exact ⟨_, _, rfl, h1, Same.tp s (sqt h1), h2⟩
  · cases h
theorem Vw.lst {K : PySem.W.Frag} {G H : Hp} {v : V} {ds : List D} (s : Same G H) (h : Vw K G H v (.list ds)) : ∃ a xs, v = .ref a ∧ Rd H a (.lst xs) ∧ FzA K G xs ds := by
  rcases h with h | ⟨a, e, h⟩
  · cases h with
    | lst h1 h2 => exact ⟨_, _, rfl, Same.rd s h1, h2⟩
  · subst e
    cases h with
    | lst h1 h2 => exact ⟨_, _, rfl, .inl h1, h2⟩
/-- a value of True or False as a test -/
theorem tst_imp {W : WX} {c : CE} : ∀ (σ : L2.St) (H : Hp) (Q : Bool → Hp → Prop), tT X W (cTst c) σ H Q → tX X W c σ H (fun x H' => ∃ k, x = .bl k ∧ Q k H') := by
  rintro σ H Q ⟨L, ρ, G, B, rel, h⟩
  refine ⟨L, ρ, G, B, rel, (Got.bind h).mono ?_⟩
  rintro x H1 ⟨p, ρ1, G1, _, rel1, _, fx1, h1⟩
  split at h1
  · rename_i b e1
    refine ⟨b, ((fx1.look rel1 e1)).bool, h1 b H1 G1 rel1 .refl rfl⟩
  · exact h1.elim
theorem st_cmp {op : CmpOp} (ho : OpR X (compareOp op) r) (hr : OpOk X.K r f) (ha : SX X a ca) (hb : SX X b cb) (hm : behindInMarks op b = false := by first | exact nomark _ | with_unfolding_all rfl) : ST X (.Compare a [op] [b] pos) (cTst (cBin f ca cb)) := fun W tk =>
  PTimp (pt_cmpR ho (ha W tk) (hb W tk) hm) fun σ H Q h => bin_imp hr σ H _ (tst_imp σ H Q h)
theorem st_val {c : CE} (h : SX X e c) (he : ∀ whole, isTrue e X.env whole = (do let v ← whole; standAt e.pos; holding [v] (truthy v)) := by intro _; rfl) : ST X e (cTst c) := fun W tk =>
  PTimp (pt_val (h W tk) he) tst_imp
/-! ### and, or, not -/
def cAnd (a b : CB) : CB := fun ρ => (a ρ).bind fun c ρ1 => if c = true then b ρ1 else .ok false ρ1
def cOr (a b : CB) : CB := fun ρ => (a ρ).bind fun c ρ1 => if c = true then .ok true ρ1 else b ρ1
def cNot (a : CB) : CB := fun ρ => (a ρ).bind fun c ρ1 => .ok (!c) ρ1
variable {ba bb : CB} {rest : List Expr}
theorem st_w (h : SW X e ba) : ST X e ba := fun W tk => (h W tk).pt
theorem sw_and1 (ha : ST X a ba) : SW X (.BoolOp .And [a] pos) ba := fun W tk => pw_and1 (ha W tk)
theorem sw_or1 (ha : ST X a ba) : SW X (.BoolOp .Or [a] pos) ba := fun W tk => pw_or1 (ha W tk)
theorem sw_and (ha : ST X a ba) (hb : SW X (.BoolOp .And (b :: rest) pos) bb) : SW X (.BoolOp .And (a :: b :: rest) pos) (cAnd ba bb) := fun W tk =>
  PWimp (pw_and (ha W tk) (hb W tk)) (by
    rintro σ H Q ⟨L, ρ, G, B, rel, h⟩
    refine ⟨L, ρ, G, B, rel, (Got.bindB h).mono ?_⟩
    rintro c H1 ⟨ρ1, G1, _, rel1, _, h1⟩
    cases c with
    | true => rw [if_pos rfl] at h1 ⊢; exact ⟨L, ρ1, G1, B, rel1, h1⟩
    | false => rw [if_neg Bool.false_ne_true] at h1 ⊢; exact h1 false H1 G1 rel1 .refl rfl)
theorem sw_or (ha : ST X a ba) (hb : SW X (.BoolOp .Or (b :: rest) pos) bb) : SW X (.BoolOp .Or (a :: b :: rest) pos) (cOr ba bb) := fun W tk =>
  PWimp (pw_or (ha W tk) (hb W tk)) (by
    rintro σ H Q ⟨L, ρ, G, B, rel, h⟩
    refine ⟨L, ρ, G, B, rel, (Got.bindB h).mono ?_⟩
    rintro c H1 ⟨ρ1, G1, _, rel1, _, h1⟩
    cases c with
    | true => rw [if_pos rfl] at h1 ⊢; exact h1 true H1 G1 rel1 .refl rfl
    | false => rw [if_neg Bool.false_ne_true] at h1 ⊢; exact ⟨L, ρ1, G1, B, rel1, h1⟩)
theorem st_not (ha : ST X a ba) : ST X (.UnaryOp .Not a pos) (cNot ba) := fun W tk => PTimp (pt_not (ha W tk)) (by
    rintro σ H Q ⟨L, ρ, G, B, rel, h⟩
    refine ⟨L, ρ, G, B, rel, (Got.bindB h).mono ?_⟩
    rintro c H1 ⟨ρ1, G1, _, rel1, _, h1⟩
    exact h1 (!c) H1 G1 rel1 .refl rfl)
def cAndV (a b : CE) : CE := fun ρ => (cTst a ρ).bind fun c ρ1 => if c = true then b ρ1 else .ok (.val (.bool false)) ρ1
def cOrV (a b : CE) : CE := fun ρ => (cTst a ρ).bind fun c ρ1 => if c = true then .ok (.val (.bool true)) ρ1 else b ρ1
def cNotV (a : CE) : CE := fun ρ => (cTst a ρ).bind fun c ρ1 => .ok (.val (.bool (!c))) ρ1
theorem tst_bind {W : WX} {c : CE} {k : Bool → Rho → R Pl} {σ : L2.St} {H : Hp} {Q : VK} (h : tX X W (fun ρ => (cTst c ρ).bind k) σ H Q) :
    tX X W c σ H (fun x H1 => ∃ b, x = .bl b ∧ ∃ (L : L2.St) (ρ1 : Rho) (G1 B : Hp), Rel X.K L B σ ρ1 G1 H1 ∧ GotP X L W σ G1 B (k b ρ1) Q) := by
  obtain ⟨L, ρ, G, B, rel, h⟩ := h
  have h2 : tT X W (cTst c) σ H (fun b H1 => ∃ (L : L2.St) (ρ1 : Rho) (G1 B : Hp), Rel X.K L B σ ρ1 G1 H1 ∧ GotP X L W σ G1 B (k b ρ1) Q) := by
    refine ⟨L, ρ, G, B, rel, (Got.bindB h).mono ?_⟩
    rintro b H1 ⟨ρ1, G1, _, rel1, _, h1⟩
    exact ⟨L, ρ1, G1, B, rel1, h1⟩
  exact tst_imp σ H _ h2
theorem sx_one {op : BoolOp} (h : SX X a ca) : SX X (.BoolOp op [a] pos) ca := fun W tk => pe_one (h W tk)
theorem sx_and (ha : SX X a ca) (hb : SX X (.BoolOp .And (b :: rest) pos) cb) : SX X (.BoolOp .And (a :: b :: rest) pos) (cAndV ca cb) := fun W tk =>
  PEimp (pe_and (ha W tk) (hb W tk)) (by
    intro σ H Q h
    obtain ⟨L, ρ, G, B, rel, h0⟩ := tst_bind h
    refine ⟨L, ρ, G, B, rel, h0.mono ?_⟩
    rintro x H1 ⟨c, rfl, L1, ρ1, G1, B1, rel1, h1⟩
    refine ⟨c, rfl, ?_⟩
    cases c with
    | true => rw [if_pos rfl] at h1 ⊢; exact ⟨L1, ρ1, G1, B1, rel1, h1⟩
    | false => rw [if_neg Bool.false_ne_true] at h1 ⊢; exact h1 (.bl false) H1 G1 rel1 .refl (.bl false))
theorem sx_not (ha : SX X a ca) : SX X (.UnaryOp .Not a pos) (cNotV ca) := fun W tk =>
  PEimp (pe_not (ha W tk)) (by
    intro σ H Q h
    obtain ⟨L, ρ, G, B, rel, h0⟩ := tst_bind h
    refine ⟨L, ρ, G, B, rel, h0.mono ?_⟩
    rintro x H1 ⟨c, rfl, L1, ρ1, G1, B1, rel1, h1⟩
    exact ⟨c, rfl, h1 (.bl (!c)) H1 G1 rel1 .refl (.bl _)⟩)
/-- a if t else b -/
def cIte (t : CB) (a b : CE) : CE := fun ρ => (t ρ).bind fun c ρ1 => if c = true then a ρ1 else b ρ1
/-! ### argument lists, displays -/
def cNil : CA := fun ρ => .ok [] ρ
def cCons (a : CE) (r : CA) : CA := fun ρ => (a ρ).bind fun p ρ1 => (r ρ1).bind fun ps ρ2 => .ok (p :: ps) ρ2
variable {es : List Expr} {cr : CA}
theorem sa_nil : SA X [] cNil := fun W tk => PAimp pa_nil (by
  rintro σ H Q ⟨L, ρ, G, B, rel, h⟩
  exact h [] H G rel .refl .nil)
theorem sa_cons (ha : SX X e ca) (hr : SA X es cr) (hs : starEach (e :: es) X.env = (false, eval e X.env) :: starEach es X.env := by rfl) : SA X (e :: es) (cCons ca cr) := fun W tk =>
  PAimp (pa_cons (ha W tk) (hr W tk) hs) (by
    rintro σ H Q ⟨L, ρ, G, B, rel, h⟩
    refine ⟨L, ρ, G, B, rel, (Got.bind h).mono ?_⟩
    rintro x H1 ⟨p, ρ1, G1, _, rel1, _, fx1, h1⟩
    refine ⟨L, ρ1, G1, B, rel1, (Got.bindA h1).mono ?_⟩
    rintro xs H2 ⟨ps, ρ2, G2, _, rel2, ext2, fx2, h2⟩
    exact h2 (x :: xs) H2 G2 rel2 .refl (.cons (fx1.mono ext2.same) fx2))
/-- all values frozen -/
def frzA : List Pl → Rho → Option (List D × Rho)
  | [], ρ => some ([], ρ)
  | p :: ps, ρ => match frz p ρ with
    | some (d, ρ1) => match frzA ps ρ1 with
      | some (ds, ρ2) => some (d :: ds, ρ2)
      | none => none
    | none => none
theorem PlA.frz {K : PySem.W.Frag} {L : L2.St} {B H : Hp} {σ : L2.St} : ∀ {ps : List Pl} {vs : List V} {ρ ρ' : Rho} {G : Hp} {ds : List D}, Rel K L B σ ρ G H → PlA K σ G vs ps → frzA ps ρ = some (ds, ρ') → ∃ G', Rel K L B σ ρ' G' H ∧ Ext B G G' ∧ FzA K G' vs ds
  | [], _, ρ, _, G, _, r, .nil, e => by cases e; exact ⟨G, r, .refl, .nil⟩
  | p :: ps, _, ρ, ρ', G, ds, r, .cons (vs := vs) a b, e => by
    unfold frzA at e
    cases e1 : TN.frz p ρ with
    | none => simp [e1] at e
    | some q =>
      obtain ⟨d, ρ1⟩ := q
      simp only [e1] at e
      cases e2 : frzA ps ρ1 with
      | none => simp [e2] at e
      | some q =>
        obtain ⟨ds', ρ2⟩ := q
        simp only [e2, Option.some.injEq, Prod.mk.injEq] at e
        obtain ⟨rfl, rfl⟩ := e
        obtain ⟨G1, r1, x1, f1⟩ := a.frz r e1
        obtain ⟨G2, r2, x2, f2⟩ := PlA.frz r1 (b.mono x1.same) e2
        exact ⟨G2, r2, x1.trans x2, .cons (f1.mono x2.same) f2⟩
def cTup (c : CA) : CE := fun ρ => (c ρ).bind fun ps ρ1 => match frzA ps ρ1 with
  | some (ds, ρ2) => if ds.length ≤ 16777216 then .ok (.val (.tuple ds)) ρ2 else .bad
  | none => .bad
def cLst (c : CA) : CE := fun ρ => (c ρ).bind fun ps ρ1 => match frzA ps ρ1 with
  | some (ds, ρ2) => if ds.length ≤ 16777216 then .ok (.tmp (.list ds)) ρ2 else .bad
  | none => .bad
theorem disp_imp {W : WX} {m : List D → Pl} {o : List V → HO} {σ : L2.St} {H : Hp} {Q : VK} (hp : ∀ (G H : Hp) (p : Addr) (vs : List V) (ds : List D), H p = none → FzA X.K G vs ds → Post X.K G H (.ref p) (upd H p (o vs)) (m ds))
    (h : tX X W (fun ρ => (cr ρ).bind fun ps ρ1 => match frzA ps ρ1 with
      | some (ds, ρ2) => if ds.length ≤ 16777216 then .ok (m ds) ρ2 else .bad
      | none => .bad) σ H Q) : tA X W cr σ H (fun xs H1 => xs.length ≤ sizeLine ∧ ∀ p, H1 p = none → Q (.ref p) (upd H1 p (o xs))) := by
  obtain ⟨L, ρ, G, B, rel, h⟩ := h
  refine ⟨L, ρ, G, B, rel, (Got.bindA h).mono ?_⟩
  rintro xs H1 ⟨ps, ρ1, G1, _, rel1, _, fx1, h1⟩
  cases e1 : frzA ps ρ1 with
  | none => simp only [e1] at h1; exact h1.elim
  | some q =>
    obtain ⟨ds, ρ2⟩ := q
    simp only [e1] at h1
    obtain ⟨G2, r2, x2, f2⟩ := fx1.frz rel1 e1
    by_cases hl : ds.length ≤ 16777216
    · rw [if_pos hl] at h1
      refine ⟨by rw [f2.length, sizeLine_eq]; exact hl, fun p hpn => Got.done r2 (Got.shift x2 h1) (hp _ _ _ _ _ hpn f2)⟩
    · rw [if_neg hl] at h1; exact h1.elim
theorem dispK_imp {W : WX} {σ : L2.St} {H : Hp} {Q : VK}
    (h : tX X W (fun ρ => (cr ρ).bind fun ps ρ1 => match frzA ps ρ1 with
      | some (ds, ρ2) => if ds.length ≤ 16777216 then .ok (.val (.tuple ds)) ρ2 else .bad
      | none => .bad) σ H Q) : tA X W cr σ H (fun xs H1 => xs.length ≤ sizeLine ∧ ∀ (p : Addr) (o : Obj), H1 p = none → o.dict = none → Q (.ref p) (upd H1 p (.frz o (.tup xs)))) := by
  obtain ⟨L, ρ, G, B, rel, h⟩ := h
  refine ⟨L, ρ, G, B, rel, (Got.bindA h).mono ?_⟩
  rintro xs H1 ⟨ps, ρ1, G1, _, rel1, _, fx1, h1⟩
  cases e1 : frzA ps ρ1 with
  | none => simp only [e1] at h1; exact h1.elim
  | some q =>
    obtain ⟨ds, ρ2⟩ := q
    simp only [e1] at h1
    obtain ⟨G2, r2, x2, f2⟩ := fx1.frz rel1 e1
    by_cases hl : ds.length ≤ 16777216
    · rw [if_pos hl] at h1
      refine ⟨by rw [f2.length, sizeLine_eq]; exact hl, fun p o hpn hd => Got.done r2 (Got.shift x2 h1) (.tup hpn hd f2)⟩
    · rw [if_neg hl] at h1; exact h1.elim
theorem sx_tup {x1 : Nat} (h : SA X es cr) : SX X (.Tuple es x1 pos) (cTup cr) := fun W tk => PEimp (pe_tupK (h W tk)) fun σ H Q q => dispK_imp q
theorem sx_lst (h : SA X es cr) : SX X (.List es pos) (cLst cr) := fun W tk => PEimp (pe_lst (h W tk)) fun σ H Q q => disp_imp (o := .lst) (fun _ _ _ _ _ a b => .lst a b) q

/-! ### built-ins called -/
def CallOk (K : PySem.W.Frag) (r : List V → Hp → VK → Prop) (f : List D → Option Pl) : Prop := ∀ (G H : Hp) (xs : List V) (ds : List D) (p : Pl) (Q : VK), Same G H → VwA K G H xs ds → f ds = some p → (∀ v H', Post K G H v H' p → Q v H') → r xs H Q
def cFn (f : List D → Option Pl) (c : CA) : CE := fun ρ => (c ρ).bind fun ps ρ1 => match lookA ps ρ1 with
  | some ds => .ofOpt (f ds) ρ1
  | none => .bad
variable {rc : List V → Hp → VK → Prop} {fc : List D → Option Pl} {x : Str} {p : Pos} {id T : String}
theorem fn_imp {W : WX} (hr : CallOk X.K rc fc) : ∀ (σ : L2.St) (H : Hp) (Q : VK), tX X W (cFn fc cr) σ H Q → tCB rc (tA X W cr) σ H Q := by
  rintro σ H Q ⟨L, ρ, G, B, rel, h⟩
  refine ⟨L, ρ, G, B, rel, (Got.bindA h).mono ?_⟩
  rintro xs H1 ⟨ps, ρ1, G1, _, rel1, _, fx1, h1⟩
  cases e1 : lookA ps ρ1 with
  | none => simp only [e1] at h1; exact h1.elim
  | some ds =>
    simp only [e1] at h1
    cases e2 : fc ds with
    | none => simp only [e2] at h1; exact h1.elim
    | some pl =>
      simp only [e2] at h1
      exact hr G1 H1 xs ds pl Q rel1.sub (fx1.look rel1 e1) e2 fun v H' ps => Got.done rel1 h1 ps
theorem sx_callB (hc : CallR X (.builtin id) rc) (hr : CallOk X.K rc fc) (hg : Gl X x) (hm : X.mg x = none) (hv : bootBuiltins x = some (.builtin id)) (ha : SA X (e :: es) cr) (hn : x ≠ "__name__" := by decide) (hdb : (x == ("__debug__" : Str)) = false := by decide)
    (he : starEach (e :: es) X.env = (false, eval e X.env) :: starEach es X.env := by rfl) (hpl : (backTo pos (starEach es X.env)).any (·.1) = false := by rfl) : SX X (.Call (.Name x p) (e :: es) [] pos) (cFn fc cr) := fun W tk =>
  PEimp (pe_callB hc hg hm hv (ha W tk) hn hdb he hpl) (fn_imp hr)
theorem sx_callTy (hc : CallR X (.type T) rc) (hr : CallOk X.K rc fc) (hg : Gl X x) (hm : X.mg x = none) (hv : bootBuiltins x = some (.type T)) (ha : SA X (e :: es) cr) (hn : x ≠ "__name__" := by decide) (hdb : (x == ("__debug__" : Str)) = false := by decide)
    (he : starEach (e :: es) X.env = (false, eval e X.env) :: starEach es X.env := by rfl) (hpl : (backTo pos (starEach es X.env)).any (·.1) = false := by rfl) : SX X (.Call (.Name x p) (e :: es) [] pos) (cFn fc cr) := fun W tk =>
  PEimp (pe_callTy hc hg hm hv (ha W tk) hn hdb he hpl) (fn_imp hr)
end
end TN
namespace TN
open PySem PySem.Spec PyProof.Rows L2

/-! ### storing -/
section
variable {K : PySem.W.Frag} {L : L2.St} {B G H H' : Hp} {σ : L2.St} {ρ : Rho} {v : V} {d : D} {i : Nat}
def canSet (ρ : Rho) (i : Nat) : Bool := match ρ[i]? with
  | some (some (_, .lent)) => false
  | some (some (_, .lz)) => false
  | some _ => true
  | none => false
theorem canSet_lt (h : canSet ρ i = true) : i < ρ.length := by
  unfold canSet at h
  cases q : ρ[i]? with
  | none => rw [q] at h; cases h
  | some o => exact (List.getElem?_eq_some_iff.mp q).1
theorem canSet_lent (h : canSet ρ i = true) {d : D} {m : Md} (e : ρ[i]? = some (some (d, m))) : m ≠ .lent ∧ m ≠ .lz := by
  unfold canSet at h
  rw [e] at h
  constructor <;> (rintro rfl; cases h)
/-- a name gets a value -/
theorem Rel.store (r : Rel K L B σ ρ G H) (hi : canSet ρ i = true) {p : D × Md} (hm : p.2 = .fz ∨ p.2 = .own) (ok : SlotOk K G H B v p)
    (hs : p.2 = .own → ∀ (j : Nat) (q : D × Md), ρ[j]? = some (some q) → q.2.isFz = false → σ[j]? ≠ some (some v)) : Rel K L B (σ.set i (some v)) (ρ.set i (some p)) G H := by
  have hlt := canSet_lt hi
  have hlt' : i < σ.length := by rw [← r.len]; exact hlt
  have pf : p.2.isFz = false → p.2 = .own := fun z => by
    rcases hm with h | h
    · rw [h] at z; cases z
    · exact h
  refine ⟨r.sub, r.base, by simpa using r.len, fun j q hq => ?_, fun j k q q' w hjk hq hq' hf hf' hw => ?_, fun j w hw => ?_⟩
  · by_cases hj : j = i
    · subst hj
      rw [List.getElem?_set_self hlt] at hq; cases hq
      exact ⟨v, List.getElem?_set_self hlt', ok⟩
    · rw [List.getElem?_set_ne (Ne.symm hj)] at hq
      obtain ⟨w, h1, h2⟩ := r.slots j q hq
      exact ⟨w, by rw [List.getElem?_set_ne (Ne.symm hj)]; exact h1, h2⟩
  · by_cases hj : j = i
    · subst hj
      rw [List.getElem?_set_self hlt] at hq; cases hq
      rw [List.getElem?_set_self hlt'] at hw; cases hw
      rw [List.getElem?_set_ne hjk] at hq' ⊢
      exact hs (pf hf) k q' hq' hf'
    · rw [List.getElem?_set_ne (Ne.symm hj)] at hq hw
      by_cases hk : k = i
      · subst hk
        rw [List.getElem?_set_self hlt] at hq'; cases hq'
        rw [List.getElem?_set_self hlt']
        intro z; cases z
        exact hs (pf hf') j q hq hf hw
      · rw [List.getElem?_set_ne (Ne.symm hk)] at hq' ⊢
        exact r.sep j k q q' w hjk hq hq' hf hf' hw
  · obtain ⟨h1, d1, m1, h2, h3⟩ := r.lent j w hw
    have hj : j ≠ i := fun z => by
      subst z
      obtain ⟨n1, n2⟩ := canSet_lent hi h2
      rcases h3 with z | z
      · exact n1 z
      · exact n2 z
    exact ⟨by rw [List.getElem?_set_ne (Ne.symm hj)]; exact h1, d1, m1, by rw [List.getElem?_set_ne (Ne.symm hj)]; exact h2, h3⟩
/-- a name is forgotten -/
theorem Rel.forget (r : Rel K L B σ ρ G H) (hi : canSet ρ i = true) : Rel K L B σ (ρ.set i none) G H := by
  have hlt := canSet_lt hi
  have out : ∀ {j : Nat} {q : D × Md}, (ρ.set i none)[j]? = some (some q) → j ≠ i ∧ ρ[j]? = some (some q) := fun {j q} h => by
    by_cases hj : j = i
    · subst hj; rw [List.getElem?_set_self hlt] at h; cases h
    · rw [List.getElem?_set_ne (Ne.symm hj)] at h; exact ⟨hj, h⟩
  refine ⟨r.sub, r.base, by simpa using r.len, fun j q hq => r.slots j q (out hq).2, fun j k q q' w hjk hq hq' hf hf' hw => r.sep j k q q' w hjk (out hq).2 (out hq').2 hf hf' hw, fun j w hw => ?_⟩
  obtain ⟨h1, d1, m1, h2, h3⟩ := r.lent j w hw
  have hj : j ≠ i := fun z => by
    subst z
    obtain ⟨n1, n2⟩ := canSet_lent hi h2
    rcases h3 with z | z
    · exact n1 z
    · exact n2 z
  exact ⟨h1, d1, m1, by rw [List.getElem?_set_ne (Ne.symm hj)]; exact h2, h3⟩
end
/-- name i = what p is -/
def store (i : Nat) (p : Pl) (ρ : Rho) : Option Rho := match p with
  | .val d => if canSet ρ i = true then some (ρ.set i (some (d, .fz))) else none
  | .tmp d => if canSet ρ i = true then some (ρ.set i (some (d, .own))) else none
  | .slot j => match frz (.slot j) ρ with
    | some (d, ρ1) => if canSet ρ1 i = true then some (ρ1.set i (some (d, .fz))) else none
    | none => none
theorem store_ok' {K : PySem.W.Frag} {L : L2.St} {B G H : Hp} {σ : L2.St} {ρ ρ' : Rho} {v : V} {i : Nat} {p : Pl} (r : Rel K L B σ ρ G H) (ok : PlOk K B σ ρ G H v p) (e : store i p ρ = some ρ') :
    ∃ G', Rel K L B (σ.set i (some v)) ρ' G' H ∧ Ext B G G' := by
  cases p with
  | val d =>
    by_cases hc : canSet ρ i = true
    · simp only [store, if_pos hc, Option.some.injEq] at e; subst e
      exact ⟨G, r.store hc (.inl rfl) ok (fun z => by cases z), .refl⟩
    · simp only [store, if_neg hc] at e; cases e
  | tmp d =>
    by_cases hc : canSet ρ i = true
    · simp only [store, if_pos hc, Option.some.injEq] at e; subst e
      obtain ⟨a, rfl, h1, h2, c, hs⟩ := ok
      exact ⟨G, r.store hc (.inr rfl) ⟨a, rfl, h1, h2, c⟩ (fun _ => hs), .refl⟩
    · simp only [store, if_neg hc] at e; cases e
  | slot j =>
    unfold store at e
    cases q : frz (.slot j) ρ with
    | none => simp only [q] at e; cases e
    | some w =>
      obtain ⟨d, ρ1⟩ := w
      simp only [q] at e
      by_cases hc : canSet ρ1 i = true
      · simp only [if_pos hc, Option.some.injEq] at e; subst e
        obtain ⟨G1, r1, x1, f1⟩ := PlFx.frz (p := .slot j) r ok q
        exact ⟨G1, r1.store hc (.inl rfl) f1 (fun z => by cases z), x1⟩
      · simp only [if_neg hc] at e; cases e

/-! ### statements -/
def plR (d : D) (fr : Bool) : Pl := if fr = true then .tmp d else .val d
def GotS (X : Cx) (L : L2.St) (W : WX) (G B : Hp) (r : RS) (Dn : Ends) : Prop := match r with
  | .nx ρ' => ∀ (σ' : L2.St) (H' G' : Hp), Rel X.K L B σ' ρ' G' H' → Ext B G G' → Dn.nx σ' H'
  | .ret d fr ρ' => ∀ (v : V) (σ' : L2.St) (H' G' : Hp), Rel X.K L B σ' ρ' G' H' → Ext B G G' → PlOk X.K B σ' ρ' G' H' v (plR d fr) → Dn.rt v H'
  | .exc x ρ' => ∀ (cls : Value) (d : Option Addr) (σ' : L2.St) (H' G' : Hp), Rel X.K L B σ' ρ' G' H' → Ext B G G' → XcOk X B G' H' x cls d → W cls d σ' H'
  | .bad => False
def tS (X : Cx) (W : WX) (c : CS) : TS := fun Dn σ H => ∃ (L : L2.St) (ρ : Rho) (G B : Hp), Rel X.K L B σ ρ G H ∧ GotS X L W G B (c ρ) Dn
abbrev Pas (X : Cx) : Prop := PassesOwn (model X.prog X.w) X.A X.env X.xe
def SS (X : Cx) (s : Stmt) (c : CS) : Prop := ∀ W : WX, Takes X W → Pas X → PS X s (tS X W c)
def SSs (X : Cx) (s : List Stmt) (c : CS) : Prop := ∀ W : WX, Takes X W → Pas X → PSs X s (tS X W c)
def R.toS (r : R Pl) (k : Pl → Rho → RS) : RS := match r with
  | .ok p ρ => k p ρ
  | .exc x ρ => .exc x ρ
  | .bad => .bad
def R.toSB (r : R Bool) (k : Bool → Rho → RS) : RS := match r with
  | .ok p ρ => k p ρ
  | .exc x ρ => .exc x ρ
  | .bad => .bad
section
variable {X : Cx} {L : L2.St} {W : WX} {G G1 B : Hp}
theorem GotS.shift {r : RS} {Dn : Ends} (e : Ext B G G1) (h : GotS X L W G B r Dn) : GotS X L W G1 B r Dn := by
  cases r with
  | nx ρ' => exact fun σ' H' G' rel ext => h σ' H' G' rel (e.trans ext)
  | ret d fr ρ' => exact fun v σ' H' G' rel ext ok => h v σ' H' G' rel (e.trans ext) ok
  | exc x ρ' => exact fun c d σ' H' G' rel ext ok => h c d σ' H' G' rel (e.trans ext) ok
  | bad => exact h
theorem GotS.expr {σ : L2.St} {r : R Pl} {k : Pl → Rho → RS} {Dn : Ends} (h : GotS X L W G B (r.toS k) Dn) :
    GotP X L W σ G B r (fun v H1 => ∃ (p : Pl) (ρ1 : Rho) (G1 : Hp), r = .ok p ρ1 ∧ Rel X.K L B σ ρ1 G1 H1 ∧ Ext B G G1 ∧ PlOk X.K B σ ρ1 G1 H1 v p ∧ GotS X L W G1 B (k p ρ1) Dn) := by
  cases r with
  | ok p ρ1 => exact fun v H' G' rel ext ok => ⟨p, ρ1, G', rfl, rel, ext, ok, GotS.shift ext h⟩
  | exc x ρ' => exact fun c d H' G' rel ext ok => h c d σ H' G' rel ext ok
  | bad => exact h
theorem GotS.test {σ : L2.St} {r : R Bool} {k : Bool → Rho → RS} {Dn : Ends} (h : GotS X L W G B (r.toSB k) Dn) :
    GotB X L W σ G B r (fun b H1 => ∃ (ρ1 : Rho) (G1 : Hp), r = .ok b ρ1 ∧ Rel X.K L B σ ρ1 G1 H1 ∧ Ext B G G1 ∧ GotS X L W G1 B (k b ρ1) Dn) := by
  cases r with
  | ok p ρ1 => exact fun v H' G' rel ext ok => by subst ok; exact ⟨ρ1, G', rfl, rel, ext, GotS.shift ext h⟩
  | exc x ρ' => exact fun c d H' G' rel ext ok => h c d σ H' G' rel ext ok
  | bad => exact h
end
def cSeq (a b : CS) : CS := fun ρ => match a ρ with
  | .nx ρ1 => b ρ1
  | .ret d fr ρ1 => .ret d fr ρ1
  | .exc x ρ1 => .exc x ρ1
  | .bad => .bad
def cSkip : CS := fun ρ => .nx ρ
def cRaise (x : Str) : CS := fun ρ => .exc ⟨x, []⟩ ρ
def cDrop (c : CE) : CS := fun ρ => (c ρ).toS fun _ ρ1 => .nx ρ1
def retP (p : Pl) (ρ : Rho) : RS := match p with
  | .val d => .ret d false ρ
  | .tmp d => .ret d true ρ
  | .slot i => match ρ[i]? with
    | some (some (d, .own)) => .ret d true (ρ.set i none)
    | some (some (d, .lent)) => .ret d false (ρ.set i (some (d, .lz)))
    | _ => .bad
def cRet (c : CE) : CS := fun ρ => (c ρ).toS retP
def cRetN : CS := fun ρ => .ret .none false ρ
def cIf (t : CB) (a b : CS) : CS := fun ρ => (t ρ).toSB fun k ρ1 => if k = true then a ρ1 else b ρ1
def cSet (i : Nat) (c : CE) : CS := fun ρ => (c ρ).toS fun p ρ1 => match store i p ρ1 with
  | some ρ2 => .nx ρ2
  | none => .bad
def forL (g : D → Rho → Option Rho) (b : CS) : List D → CS
  | [], ρ => .nx ρ
  | d :: ds, ρ => match g d ρ with
    | none => .bad
    | some ρ1 => match b ρ1 with
      | .nx ρ2 => forL g b ds ρ2
      | .ret d fr ρ2 => .ret d fr ρ2
      | .exc x ρ2 => .exc x ρ2
      | .bad => .bad
section
variable {X : Cx} {st : Stmt} {sts : List Stmt} {a b : CS} {e : Expr} {c : CE} {t : CB} {pos pos' : Pos}
theorem tS_nx {W : WX} {Dn : Ends} {σ : L2.St} {H : Hp} (h : tS X W cSkip Dn σ H) : Dn.nx σ H := by
  obtain ⟨L, ρ, G, B, rel, h⟩ := h
  exact h σ H G rel .refl
theorem ss_nil : SSs X [] cSkip := fun W _ _ => PSsimp pss_nil fun D σ H h => tS_nx h
theorem ss_one (h : SS X st a) : SSs X [st] a := fun W tk ps => pss_one (h W tk ps)
theorem seq_imp {W : WX} {Dn : Ends} {σ : L2.St} {H : Hp} (h : tS X W (cSeq a b) Dn σ H) : tS X W a { Dn with nx := tS X W b Dn } σ H := by
  obtain ⟨L, ρ, G, B, rel, h⟩ := h
  refine ⟨L, ρ, G, B, rel, ?_⟩
  unfold cSeq at h
  cases q : a ρ with
  | nx ρ1 => rw [q] at h; exact fun σ' H' G' r1 x1 => ⟨L, ρ1, G', B, r1, GotS.shift x1 h⟩
  | ret d fr ρ1 => rw [q] at h; exact h
  | exc x ρ1 => rw [q] at h; exact h
  | bad => rw [q] at h; exact h.elim
theorem ss_cons (h1 : SS X st a) (h2 : SSs X sts b) : SSs X (st :: sts) (cSeq a b) := fun W tk ps => PSsimp (pss_cons (h1 W tk ps) (h2 W tk ps)) fun D σ H h => seq_imp h
theorem ss_expr (he : SX X e c) (hs : swapsWith e none pos.line X.env = pure false := by rfl) : SS X (.Expr e pos) (cDrop c) := fun W tk _ => PSimp (ps_expr (he W tk) hs) (by
  rintro D σ H ⟨L, ρ, G, B, rel, h⟩
  refine ⟨L, ρ, G, B, rel, (GotS.expr (k := fun _ ρ1 => RS.nx ρ1) h).mono ?_⟩
  rintro v H1 ⟨p, ρ1, G1, _, rel1, _, _, h1⟩
  exact h1 σ H1 G1 rel1 .refl)
theorem ret_ok {L : L2.St} {W : WX} {G B H : Hp} {σ : L2.St} {ρ : Rho} {p : Pl} {v : V} {Dn : Ends} (rel : Rel X.K L B σ ρ G H) (ok : PlOk X.K B σ ρ G H v p) (h : GotS X L W G B (retP p ρ) Dn) : Dn.rt v H := by
  cases p with
  | val d => exact h v σ H G rel .refl ok
  | tmp d => exact h v σ H G rel .refl ok
  | slot i =>
    have hv : σ[i]? = some (some v) := ok
    unfold retP at h
    cases q : ρ[i]? with
    | none => simp only [q] at h; exact h.elim
    | some o =>
      cases o with
      | none => simp only [q] at h; exact h.elim
      | some w =>
        obtain ⟨d, m⟩ := w
        cases m with
        | fz => simp only [q] at h; exact h.elim
        | lz => simp only [q] at h; exact h.elim
        | own =>
          simp only [q] at h
          obtain ⟨v', h1, h2⟩ := rel.slots i _ q
          rw [hv] at h1; cases h1
          obtain ⟨a, rfl, h3, h4, c⟩ := h2
          have hc : canSet ρ i = true := by unfold canSet; rw [q]
          refine h (.ref a) σ H G (rel.forget hc) .refl ⟨a, rfl, h3, h4, c, fun j w hj hf => ?_⟩
          by_cases hji : j = i
          · subst hji
            rw [List.getElem?_set_self (canSet_lt hc)] at hj; cases hj
          · rw [List.getElem?_set_ne (Ne.symm hji)] at hj
            exact fun z => rel.sep j i w (d, .own) (.ref a) hji hj q hf rfl z hv
        | lent =>
          simp only [q] at h
          have fe : frz (.slot i) ρ = some (d, ρ.set i (some (d, .lz))) := by unfold frz; simp only [q]
          obtain ⟨G1, r1, x1, f1⟩ := PlFx.frz (p := .slot i) rel hv fe
          exact h v σ H G1 r1 x1 f1
theorem ss_ret (he : SX X e c) : SS X (.Return (some e) pos) (cRet c) := fun W tk _ => PSimp (ps_ret (he W tk)) (by
  rintro D σ H ⟨L, ρ, G, B, rel, h⟩
  refine ⟨L, ρ, G, B, rel, (GotS.expr h).mono ?_⟩
  rintro v H1 ⟨p, ρ1, G1, _, rel1, _, ok, h1⟩
  exact ret_ok rel1 ok h1)
theorem ss_if {t' : Expr} {s1 s2 : List Stmt} (ht : ST X t' t) (ha : SSs X s1 a) (hb : SSs X s2 b) : SS X (.If t' s1 s2 pos) (cIf t a b) := fun W tk ps => PSimp (ps_if (ht W tk) (ha W tk ps) (hb W tk ps)) (by
  rintro D σ H ⟨L, ρ, G, B, rel, h⟩
  refine ⟨L, ρ, G, B, rel, (GotS.test h).mono ?_⟩
  rintro k H1 ⟨ρ1, G1, _, rel1, _, h1⟩
  cases k with
  | true => rw [if_pos rfl] at h1 ⊢; exact ⟨L, ρ1, G1, B, rel1, h1⟩
  | false => rw [if_neg Bool.false_ne_true] at h1 ⊢; exact ⟨L, ρ1, G1, B, rel1, h1⟩)
theorem set_imp {W : WX} {i : Nat} {Dn : Ends} {σ : L2.St} {H : Hp} (h : tS X W (cSet i c) Dn σ H) : tX X W c σ H (fun x H1 => gName i x σ H1 Dn.nx) := by
  obtain ⟨L, ρ, G, B, rel, h⟩ := h
  refine ⟨L, ρ, G, B, rel, (GotS.expr h).mono ?_⟩
  rintro v H1 ⟨p, ρ1, G1, _, rel1, _, ok, h1⟩
  cases q : store i p ρ1 with
  | none => simp only [q] at h1; exact h1.elim
  | some ρ2 =>
    simp only [q] at h1
    obtain ⟨G2, r2, x2⟩ := store_ok' rel1 ok q
    exact h1 _ H1 G2 r2 x2
theorem ss_set (i : Nat) {x : Str} (hN : X.N.Nodup) (he : SX X e c) (hi : X.N[i]? = some x := by rfl) (hx : Loc X.env.scope x := by first | exact Or.inl rfl | exact Or.inr rfl) (hs : swapsWith e (some (.Name x pos')) pos.line X.env = pure false := by rfl)
    (hf : X.fn x = true ∨ X.env.scope.names.lookup x = some .local := by first | exact .inl rfl | exact .inr rfl | assumption) : SS X (.Assign [.Name x pos'] e pos) (cSet i c) := fun W tk _ =>
  PSimp (ps_set hN hi hx (he W tk) hs hf) fun D σ H h => set_imp h
/-! ### targets -/
def tG (X : Cx) (vs : List Nat) (g : D → Rho → Option Rho) : TG := fun v σ H Q => ∃ (L : L2.St) (ρ : Rho) (G B : Hp) (d : D), Rel X.K L B σ ρ G H ∧ Fz X.K G v d ∧ match g d ρ with
  | some ρ' => ∀ (σ' : L2.St) (H' G' : Hp), Rel X.K L B σ' ρ' G' H' → Ext B G G' → Only vs σ σ' → Q σ' H'
  | none => False
def tGs (X : Cx) (vs : List Nat) (g : List D → Rho → Option Rho) : TGs := fun xs σ H Q => ∃ (L : L2.St) (ρ : Rho) (G B : Hp) (ds : List D), Rel X.K L B σ ρ G H ∧ FzA X.K G xs ds ∧ match g ds ρ with
  | some ρ' => ∀ (σ' : L2.St) (H' G' : Hp), Rel X.K L B σ' ρ' G' H' → Ext B G G' → Only vs σ σ' → Q σ' H'
  | none => False
def SG (X : Cx) (e : Expr) (vs : List Nat) (g : D → Rho → Option Rho) : Prop := PG X e (tG X vs g)
def SGs (X : Cx) (es : List Expr) (vs : List Nat) (g : List D → Rho → Option Rho) : Prop := PGs X es (tGs X vs g)
theorem PGimp {X : Cx} {e : Expr} {t t' : TG} (h : PG X e t) (w : ∀ v σ H Q, t' v σ H Q → t v σ H Q) : PG X e t' := ⟨fun pins s σ H v u Q I r q => h.run pins s σ H v u Q I r (w _ _ _ _ q)⟩
theorem PGsimp {X : Cx} {e : List Expr} {t t' : TGs} (h : PGs X e t) (w : ∀ v σ H Q, t' v σ H Q → t v σ H Q) : PGs X e t' := ⟨fun pins s σ H v u Q I r q => h.run pins s σ H v u Q I r (w _ _ _ _ q)⟩
def gNm (i : Nat) : D → Rho → Option Rho := fun d ρ => store i (.val d) ρ
theorem sg_name (i : Nat) {x : Str} (hN : X.N.Nodup) (hi : X.N[i]? = some x := by rfl) (hx : Loc X.env.scope x := by first | exact Or.inl rfl | exact Or.inr rfl) (hf : X.fn x = true ∨ X.env.scope.names.lookup x = some .local := by first | exact .inl rfl | exact .inr rfl | assumption) :
    SG X (.Name x pos) [i] (gNm i) := PGimp (pg_name hN hi hx hf) (by
  rintro v σ H Q ⟨L, ρ, G, B, d, rel, fz, h⟩
  by_cases hc : canSet ρ i = true
  · simp only [gNm, store, if_pos hc] at h
    exact h _ H G (rel.store hc (.inl rfl) fz (fun z => by cases z)) .refl ⟨by simp, fun j hj => by
      rw [List.getElem?_set_ne]
      intro z; subst z; exact hj (by simp)⟩
  · simp only [gNm, store, if_neg hc] at h)
def gsNil : List D → Rho → Option Rho := fun ds ρ => match ds with
  | [] => some ρ
  | _ => none
def gsCons (g : D → Rho → Option Rho) (r : List D → Rho → Option Rho) : List D → Rho → Option Rho := fun ds ρ => match ds with
  | d :: ds => match g d ρ with
    | some ρ1 => r ds ρ1
    | none => none
  | [] => none
def gTp (n : Nat) (g : List D → Rho → Option Rho) : D → Rho → Option Rho := fun d ρ => match d with
  | .tuple ds => if ds.length = n then g ds ρ else none
  | _ => none
variable {es : List Expr} {g : D → Rho → Option Rho} {gs : List D → Rho → Option Rho} {vs ws : List Nat}
theorem sgs_nil : SGs X [] [] gsNil := PGsimp pgs_nil (by
  rintro xs σ H Q ⟨L, ρ, G, B, ds, rel, fz, h⟩
  cases fz with
  | nil => exact ⟨rfl, h σ H G rel .refl ⟨rfl, fun _ _ => rfl⟩⟩
  | cons a b => exact h.elim)
theorem sgs_cons (h1 : SG X e vs g) (h2 : SGs X es ws gs) (hs : (assignEach (e :: es) X.env).map (·.2) = assign e X.env :: (assignEach es X.env).map (·.2) := by rfl) : SGs X (e :: es) (vs ++ ws) (gsCons g gs) := PGsimp (pgs_cons h1 h2 hs) (by
  rintro xs σ H Q ⟨L, ρ, G, B, ds, rel, fz, h⟩
  cases fz with
  | nil => exact h.elim
  | @cons v vr d dr a b =>
    refine ⟨v, vr, rfl, L, ρ, G, B, d, rel, a, ?_⟩
    unfold gsCons at h
    cases q : g d ρ with
    | none => simp only [q] at h
    | some ρ1 =>
      simp only [q] at h
      refine fun σ' H' G' r' x1 o1 => ⟨L, ρ1, G', B, dr, r', b.mono x1.same, ?_⟩
      cases q2 : gs dr ρ1 with
      | none => simp only [q2] at h
      | some ρ2 =>
        simp only [q2] at h
        exact fun σ2 H2 G2 r2 x2 o2 => h σ2 H2 G2 r2 (x1.trans x2) (o1.trans o2))
theorem sg_tup {n k : Nat} (hc : X.calm = true) (h : SGs X es vs gs) (hn : (assignEach es X.env).length = n := by rfl) (hst : (assignEach es X.env).findIdx? (·.1) = none := by rfl) : SG X (.Tuple es k pos) vs (gTp n gs) := PGimp (pg_tup hc h hn hst) (by
  rintro v σ H Q ⟨L, ρ, G, B, d, rel, fz, h⟩
  cases d with
  | tuple ds =>
    unfold gTp at h
    obtain ⟨a, xs, rfl, h1, h2, h3⟩ := Vw.tup rel.sub (.of fz : Vw X.K G H v _)
    by_cases hl : ds.length = n
    · simp only [if_pos hl] at h
      exact ⟨a, xs, rfl, h2, by rw [h3.length]; exact hl, L, ρ, G, B, ds, rel, h3, h⟩
    · simp only [if_neg hl] at h
  | _ => exact h.elim)
/-- a, b = e -/
def cUnp (g : D → Rho → Option Rho) (c : CE) : CS := fun ρ => (c ρ).toS fun p ρ1 => match frz p ρ1 with
  | some (d, ρ2) => match g d ρ2 with
    | some ρ3 => .nx ρ3
    | none => .bad
  | none => .bad
theorem ss_unp {tg : Expr} (he : SX X e c) (hg : SG X tg vs g) (hs : swapsWithSole [tg] e pos.line X.env = pure false := by rfl) (hw : swappedStores [tg] e X.env = pure none := by rfl)
    (h1 : (assignEach [tg] X.env).map (·.2) = [assign tg X.env] := by rfl) : SS X (.Assign [tg] e pos) (cUnp g c) := fun W tk _ => PSimp (ps_asg (he W tk) hg hs hw h1) (by
  rintro D σ H ⟨L, ρ, G, B, rel, h⟩
  refine ⟨L, ρ, G, B, rel, (GotS.expr h).mono ?_⟩
  rintro v H1 ⟨p, ρ1, G1, _, rel1, _, ok, h1⟩
  cases q : frz p ρ1 with
  | none => simp only [q] at h1; exact h1.elim
  | some w =>
    obtain ⟨d, ρ2⟩ := w
    simp only [q] at h1
    obtain ⟨G2, r2, x2, fx2⟩ := ok.fix rel1
    obtain ⟨G3, r3, x3, f3⟩ := fx2.frz r2 q
    refine ⟨L, ρ2, G3, B, d, r3, f3, ?_⟩
    cases q2 : g d ρ2 with
    | none => simp only [q2] at h1; exact h1.elim
    | some ρ3 =>
      simp only [q2] at h1
      exact fun σ' H' G' r' x4 _ => h1 σ' H' G' r' ((x2.trans x3).trans x4))

/-! ### what is walked -/
def ItOk (K : PySem.W.Frag) (G : Hp) (ds : List D) (J : It) : Prop := ∀ (G2 H2 : Hp), Same G G2 → Same G2 H2 → ∀ i : Nat, (∀ d, ds[i]? = some d → J.go i H2 ∧ ∀ x H3, J.yld i H2 x H3 → Post K G2 H2 x H3 (.val d)) ∧ (ds.length ≤ i → J.stop i H2)
abbrev GotI (X : Cx) (L : L2.St) (W : WX) (σ : L2.St) (G B : Hp) (r : R (List D)) (Q : It → Hp → Prop) : Prop := Got X L W σ G B (fun ds _ G' _ J => ItOk X.K G' ds J) r Q
def tI (X : Cx) (W : WX) (c : CI) : TI := fun σ H Q => ∃ (L : L2.St) (ρ : Rho) (G B : Hp), Rel X.K L B σ ρ G H ∧ GotI X L W σ G B (c ρ) Q
def SI (X : Cx) (tg e : Expr) (c : CI) : Prop := ∀ W : WX, Takes X W → PI X tg e (tI X W c)
theorem PIimp {X : Cx} {tg e : Expr} {t t' : TI} (h : PI X tg e t) (w : ∀ σ H Q, t' σ H Q → t σ H Q) : PI X tg e t' := ⟨fun pins s σ H Q I q => h.run pins s σ H Q I (w _ _ _ q)⟩
variable {tg : Expr} {ci : CI}
/-- for: each thing stored, the body -/
def cFor (ci : CI) (g : D → Rho → Option Rho) (b : CS) : CS := fun ρ => match ci ρ with
  | .ok ds ρ1 => forL g b ds ρ1
  | .exc x ρ1 => .exc x ρ1
  | .bad => .bad
theorem ss_for {it : Expr} {body : List Stmt} (hc : X.calm = true) (hi : SI X tg it ci) (hg : SG X tg vs g) (hb : SSs X body b) (hs : ∀ x, foldedSetIterable it X.env x = pure x := by intro _; rfl) : SS X (.For tg it body [] pos) (cFor ci g b) := fun W tk ps =>
  PSimp (ps_for ps hc (hi W tk) hg (hb W tk ps) hs) (by
  rintro D σ H ⟨L, ρ, G, B, rel, h⟩
  unfold cFor at h
  refine ⟨L, ρ, G, B, rel, ?_⟩
  cases q : ci ρ with
  | bad => rw [q] at h; exact h.elim
  | exc x ρ1 => rw [q] at h; exact fun c d H' G' r' x' ok => h c d σ H' G' r' x' ok
  | ok ds ρ1 =>
    simp only [q] at h
    intro J H1 G1 rel1 ext1 hit
    refine ⟨fun i m σ H => m = ds.length - i ∧ i ≤ ds.length ∧ ∃ (ρ : Rho) (G : Hp), Rel X.K L B σ ρ G H ∧ Ext B G1 G ∧ GotS X L W G B (forL g b (ds.drop i) ρ) D, ⟨ds.length, by simp, Nat.zero_le _, ρ1, G1, rel1, .refl, by simpa using GotS.shift ext1 h⟩, ?_⟩
    rintro i m σ H ⟨rfl, hle, ρ, G, rel, ext, h⟩
    obtain ⟨h1, h2⟩ := hit G H ext.same rel.sub i
    by_cases hlt : i < ds.length
    · right
      have ei : ds[i]? = some ds[i] := by simp [hlt]
      obtain ⟨hgo, hy⟩ := h1 _ ei
      rw [List.drop_eq_getElem_cons hlt] at h
      refine ⟨hgo, fun σ' H' => i + 1 ≤ ds.length ∧ ∃ (ρ : Rho) (G : Hp), Rel X.K L B σ' ρ G H' ∧ Ext B G1 G ∧ GotS X L W G B (forL g b (ds.drop (i + 1)) ρ) D, fun σ' H' q => ⟨ds.length - (i + 1), by omega, rfl, q⟩, fun x H' hx => ?_⟩
      obtain ⟨G2, r2, x2, f2⟩ := (hy x H' hx).ok rel
      refine ⟨L, ρ, G2, B, ds[i], r2, f2, ?_⟩
      unfold forL at h
      cases q1 : g ds[i] ρ with
      | none => simp only [q1] at h; exact h.elim
      | some ρ2 =>
        simp only [q1] at h
        intro σ' H5 G5 r' x5 _
        refine ⟨L, ρ2, G5, B, r', ?_⟩
        cases q2 : b ρ2 with
        | nx ρ3 => simp only [q2] at h; exact fun σ3 H3 G3 r3 x3 => ⟨hlt, ρ3, G3, r3, ((ext.trans x2).trans x5).trans x3, GotS.shift ((x2.trans x5).trans x3) h⟩
        | ret d fr ρ3 => simp only [q2] at h; exact GotS.shift (x2.trans x5) h
        | exc x ρ3 => simp only [q2] at h; exact GotS.shift (x2.trans x5) h
        | bad => simp only [q2] at h; exact h.elim
    · left
      have e : i = ds.length := by omega
      subst e
      refine ⟨h2 (Nat.le_refl _), ?_⟩
      rw [List.drop_length] at h
      exact h σ H G rel .refl)
end
end TN
namespace TN
open PySem PySem.Spec PyProof.Rows L2

/-! ### defs -/
structure ArgsOk (K : PySem.W.Frag) (G H B : Hp) (vs : List V) (as : List (D × Md)) : Prop where
  len : vs.length = as.length
  arg : ∀ (i : Nat) (p : D × Md), as[i]? = some p → ∃ v, vs[i]? = some v ∧ SlotOk K G H B v p ∧ (p.2 = .fz ∨ p.2 = .lent)
  sep : ∀ (i j : Nat) (p q : D × Md) (v : V), i ≠ j → as[i]? = some p → as[j]? = some q → p.2 = .lent → q.2 = .lent → vs[i]? = some v → vs[j]? ≠ some v
/-- behind a call -/
structure After (K : PySem.W.Frag) (B G : Hp) (vs : List V) (as : List (D × Md)) (outs : List Slot) (G' H' : Hp) : Prop where
  sub : Same G' H'
  base : Same B H'
  ext : Ext B G G'
  out : ∀ (i : Nat) (d : D) (v : V), as[i]? = some (d, .lent) → vs[i]? = some v → ∃ (d' : D) (m : Md), outs[i]? = some (some (d', m)) ∧ (m = .lent ∨ m = .lz) ∧ SlotOk K G' H' B v (d', m)
def FRes (K : PySem.W.Frag) (mg : Str → Option Value) (B G : Hp) (vs : List V) (as : List (D × Md)) (Q : VK) (E : XK) (r : FR) : Prop := match r with
  | .ok d fr outs => ∀ (v : V) (H' G' : Hp), After K B G vs as outs G' H' → (fr = false → Fz K G' v d) →
      (fr = true → ∃ a, v = .ref a ∧ G' a = none ∧ B a = none ∧ Cont K G' H' a d ∧ ∀ (i : Nat) (d1 : D) (w : V) (d2 : D), as[i]? = some (d1, .lent) → vs[i]? = some w → outs[i]? = some (some (d2, .lent)) → w ≠ v) → Q v H'
  | .exc x outs => ∀ (cls : Value) (d : Option Addr) (H' G' : Hp), After K B G vs as outs G' H' →
      (∃ C : Addr, mg x.cls = some (.ref C) ∧ cls = .ref C ∧ ((x.flds = [] ∧ d = none) ∨ ∃ (dd : Addr) (fs : List (Str × V)), d = some dd ∧ H' dd = some (.xd fs) ∧ B dd = none ∧ FzN K G' fs x.flds)) → E cls d H'
  | .bad => False
/-- the promise of a def with the meaning M -/
def spF (K : PySem.W.Frag) (mg : Str → Option Value) (n : Nat) (M : FM) : Sp := fun vs H Q E => ∃ (G B : Hp) (as : List (D × Md)), vs.length = n ∧ Same G H ∧ Same B H ∧ ArgsOk K G H B vs as ∧ FRes K mg B G vs as Q E (M as)
/-- the meaning by the body's -/
def mkF (n m : Nat) (c : CS) : FM := fun as => if as.length = n then (match c (as.map some ++ List.replicate (m - n) none) with
  | .nx ρ => .ok .none false (ρ.take n)
  | .ret d fr ρ => .ok d fr (ρ.take n)
  | .exc x ρ => .exc x (ρ.take n)
  | .bad => .bad) else .bad
theorem start_get {N : List Str} {vs : List V} {i : Nat} {v : V} (h : vs[i]? = some v) : (L2.start N vs)[i]? = some (some v) := by
  unfold L2.start
  have hi : i < vs.length := (List.getElem?_eq_some_iff.mp h).1
  rw [List.getElem?_append_left (by simpa using hi), List.getElem?_map, h]; rfl
section
variable {P : Program} {w : World} {K : PySem.W.Frag} {mg : Str → Option Value} {base : Heap} {x qual : Str} {params : Arguments} {body : List Stmt} {scope : Scope} {f : Addr} {fd : FuncData}
theorem body_imp {X : Cx} {N : List Str} {n : Nat} {c : CS} {vs : List V} {H : Hp} {Q : VK} {E : XK} (hK : X.K = K) (hmg : X.mg = mg) (hn : n ≤ N.length) (h : spF K mg n (mkF n N.length c) vs H Q E) :
    tS X (fun cls d _ H => E cls d H) c { nx := fun _ H' => Q .non H', rt := Q } (L2.start N vs) H := by
  obtain ⟨G, B, as, hl, sub, bs, ao, h⟩ := h
  subst hK hmg
  have hla : as.length = n := by rw [← ao.len]; exact hl
  unfold mkF at h
  rw [if_pos hla] at h
  have rget : ∀ {i : Nat} {p : D × Md}, (as.map some ++ List.replicate (N.length - n) none)[i]? = some (some p) → as[i]? = some p := by
    intro i p hp
    by_cases hi : i < as.length
    · rw [List.getElem?_append_left (by simpa using hi), List.getElem?_map] at hp
      cases q : as[i]? with
      | none => rw [q] at hp; cases hp
      | some a => rw [q] at hp; cases hp; rfl
    · rw [List.getElem?_append_right (by simpa using hi), List.getElem?_replicate] at hp
      split at hp <;> cases hp
  have rgetI : ∀ {i : Nat} {p : D × Md}, as[i]? = some p → (as.map some ++ List.replicate (N.length - n) none)[i]? = some (some p) := by
    intro i p hp
    have hi : i < as.length := (List.getElem?_eq_some_iff.mp hp).1
    rw [List.getElem?_append_left (by simpa using hi), List.getElem?_map, hp]; rfl
  generalize hL : ((List.range n).map fun i => match as[i]?, vs[i]? with
    | some (_, .lent), some v => some v
    | _, _ => none : List (Option V)) = L
  have Lget : ∀ {j : Nat} {v : V}, L[j]? = some (some v) → vs[j]? = some v ∧ ∃ d, as[j]? = some (d, .lent) := by
    intro j v hj
    rw [← hL, List.getElem?_map] at hj
    cases q : (List.range n)[j]? with
    | none => rw [q] at hj; cases hj
    | some k =>
      have : k = j := by
        have := List.getElem?_eq_some_iff.mp q
        obtain ⟨_, e⟩ := this
        simpa using e.symm
      subst this
      rw [q] at hj
      simp only [Option.map_some, Option.some.injEq] at hj
      split at hj
      · rename_i a b e1 e2 
        cases hj; exact ⟨e2, _, e1⟩
      · cases hj
  have LgetI : ∀ {j : Nat} {v : V} {d : D}, vs[j]? = some v → as[j]? = some (d, .lent) → L[j]? = some (some v) := by
    intro j v d h1 h2
    have hj : j < n := by rw [← hla]; exact (List.getElem?_eq_some_iff.mp h2).1
    rw [← hL, List.getElem?_map, List.getElem?_range hj]
    simp only [Option.map_some, h1, h2]
  have rel : Rel X.K L B (L2.start N vs) (as.map some ++ List.replicate (N.length - n) none) G H := by
    refine ⟨sub, bs, ?_, fun i p hp => ?_, fun i j p q v hij hp hq hf hf' hv => ?_, fun j v hj => ?_⟩
    · unfold L2.start
      rw [List.length_append, List.length_append, List.length_map, List.length_map, List.length_replicate, List.length_replicate, ao.len, hla]
    · obtain ⟨v, h1, h2, _⟩ := ao.arg i p (rget hp)
      exact ⟨v, start_get h1, h2⟩
    · obtain ⟨v1, h1, _, m1⟩ := ao.arg i p (rget hp)
      obtain ⟨v2, h2, _, m2⟩ := ao.arg j q (rget hq)
      have e1 : p.2 = .lent := by rcases m1 with e | e; (rw [e] at hf; cases hf); exact e
      have e2 : q.2 = .lent := by rcases m2 with e | e; (rw [e] at hf'; cases hf'); exact e
      rw [start_get h1] at hv; cases hv
      rw [start_get h2]
      intro z; cases z
      exact ao.sep i j p q _ hij (rget hp) (rget hq) e1 e2 h1 h2
    · obtain ⟨h1, d, h2⟩ := Lget hj
      exact ⟨start_get h1, d, .lent, rgetI h2, .inl rfl⟩
  have aft : ∀ {σ' : L2.St} {ρ' : Rho} {G' H' : Hp}, Rel X.K L B σ' ρ' G' H' → Ext B G G' → After X.K B G vs as (ρ'.take n) G' H' := by
    intro σ' ρ' G' H' r e
    refine ⟨r.sub, r.base, e, fun i d v h1 h2 => ?_⟩
    obtain ⟨h3, d', m, h4, h5⟩ := r.lent i v (LgetI h2 h1)
    obtain ⟨v', h6, h7⟩ := r.slots i _ h4
    rw [h3] at h6; cases h6
    have hi : i < n := by rw [← hla]; exact (List.getElem?_eq_some_iff.mp h1).1
    exact ⟨d', m, by rw [List.getElem?_take_of_lt hi]; exact h4, h5, h7⟩
  refine ⟨L, _, G, B, rel, ?_⟩
  cases q : c (as.map some ++ List.replicate (N.length - n) none) with
  | nx ρ' =>
    rw [q] at h
    exact fun σ' H' G' r e => h .non H' G' (aft r e) (fun _ => .non) (fun z => by cases z)
  | ret d fr ρ' =>
    rw [q] at h
    intro v σ' H' G' r e ok
    refine h v H' G' (aft r e) (fun z => ?_) (fun z => ?_)
    · subst z; exact ok
    · subst z
      obtain ⟨a, rfl, h1, h2, c, hs⟩ := ok
      refine ⟨a, rfl, h1, h2, c, fun i d1 w d2 e1 e2 e3 z => ?_⟩
      subst z
      obtain ⟨h3, d', m, h4, h5⟩ := r.lent i _ (LgetI e2 e1)
      have hi : i < n := by rw [← hla]; exact (List.getElem?_eq_some_iff.mp e1).1
      rw [List.getElem?_take_of_lt hi] at e3
      exact hs i _ e3 rfl h3
  | exc y ρ' =>
    rw [q] at h
    exact fun cls d σ' H' G' r e ok => h cls d H' G' (aft r e) ok
  | bad => rw [q] at h; exact h
theorem fn_sound {k : Nat} {N ps : List Str} {c : CS} (F : FunD K x qual params body scope [] [] f fd) (S : FnScope N ps scope)
    (hb : ∀ (cdv : Value) (A : Around) (outer : List Env) (s : Shared) (H : Hp) (E : XK), Room k (A.deeper (envOfC qual scope s.heap.objs.size f cdv)) → SSs (cxOf (L2.CX P w) P w K mg base N qual scope f cdv A outer s H E) body c) :
    FnOk P w K mg base (L2.CX P w) (k + 1) f fd ps (spF K mg ps.length (mkF ps.length N.length c)) := by
  refine F.ok S (fun vs H Q E h => ?_) (fun cdv A outer s H vs Q E hr h => ?_)
  · obtain ⟨_, _, _, h, _⟩ := h; exact h
  · have hn : ps.length ≤ N.length := by
      have := congrArg List.length S.pre
      rw [List.length_take] at this; omega
    exact ⟨_, hb cdv A outer s H E hr _ (takes_of rfl rfl rfl rfl) (passes_of rfl), body_imp (X := cxOf (L2.CX P w) P w K mg base N qual scope f cdv A outer s H E) rfl rfl hn h⟩
end

/-! ### calls -/
def argOf (p : Pl) (ρ : Rho) : Option (D × Md) := match p with
  | .val d => some (d, .fz)
  | .tmp d => some (d, .fz)
  | .slot i => match ρ[i]? with
    | some (some (d, .own)) => some (d, .lent)
    | some (some (d, .lent)) => some (d, .lent)
    | some (some (d, .fz)) => some (d, .fz)
    | some (some (d, .lz)) => some (d, .fz)
    | _ => none
def argsOf : List Pl → Rho → Option (List (D × Md))
  | [], _ => some []
  | p :: ps, ρ => match argOf p ρ, argsOf ps ρ with
    | some a, some as => some (a :: as)
    | _, _ => none
def isSlot (i : Nat) : Pl → Bool
  | .slot j => i == j
  | _ => false
def noDup : List Pl → Bool
  | [] => true
  | .slot i :: ps => !(ps.any (isSlot i)) && noDup ps
  | _ :: ps => noDup ps
def outAt (j : Nat) : List Pl → List Slot → Option Slot
  | p :: ps, o :: os => if isSlot j p = true then some o else outAt j ps os
  | _, _ => none
def gbAt (ps : List Pl) (outs : List Slot) (j : Nat) (s : Slot) : Slot := match s with
  | some (d, .own) => match outAt j ps outs with
    | some (some (d', .lent)) => some (d', .own)
    | some (some (d', .lz)) => some (d', .fz)
    | some _ => none
    | none => some (d, .own)
  | some (d, .lent) => match outAt j ps outs with
    | some (some (d', .lent)) => some (d', .lent)
    | some (some (d', .lz)) => some (d', .lz)
    | some _ => none
    | none => some (d, .lent)
  | s => s
def gb (ps : List Pl) (outs : List Slot) : Nat → Rho → Rho
  | _, [] => []
  | j, s :: r => gbAt ps outs j s :: gb ps outs (j + 1) r
theorem gb_get (ps : List Pl) (outs : List Slot) : ∀ (ρ : Rho) (j i : Nat), (gb ps outs j ρ)[i]? = (ρ[i]?).map (gbAt ps outs (j + i))
  | [], _, _ => by simp [gb]
  | s :: r, j, 0 => by simp [gb]
  | s :: r, j, i + 1 => by
    simp only [gb, List.getElem?_cons_succ]
    rw [gb_get ps outs r (j + 1) i, Nat.add_right_comm]; rfl
theorem gb_length (ps : List Pl) (outs : List Slot) : ∀ (ρ : Rho) (j : Nat), (gb ps outs j ρ).length = ρ.length
  | [], _ => rfl
  | s :: r, j => by simp [gb, gb_length ps outs r]
theorem isSlot_iff {j : Nat} {p : Pl} : isSlot j p = true ↔ p = .slot j := by
  cases p with
  | val d => exact ⟨fun h => Bool.noConfusion h, fun h => nomatch h⟩
  | tmp d => exact ⟨fun h => Bool.noConfusion h, fun h => nomatch h⟩
  | slot i => exact ⟨fun h => by rw [eq_of_beq (show (j == i) = true from h)], fun h => by cases h; exact beq_self_eq_true j⟩
theorem outAt_some {j : Nat} : ∀ {ps : List Pl} {outs : List Slot} {o : Slot}, outAt j ps outs = some o → ∃ i : Nat, ps[i]? = some (Pl.slot j) ∧ outs[i]? = some o
  | p :: ps, o' :: os, o, h => by
    unfold outAt at h
    by_cases hs : isSlot j p = true
    · rw [if_pos hs] at h; cases h
      exact ⟨0, by rw [isSlot_iff.mp hs]; rfl, rfl⟩
    · rw [if_neg hs] at h
      obtain ⟨i, h1, h2⟩ := outAt_some h
      exact ⟨i + 1, by simpa using h1, by simpa using h2⟩
  | [], _, _, h => by simp [outAt] at h
  | _ :: _, [], _, h => by simp [outAt] at h
theorem outAt_none {j : Nat} : ∀ {ps : List Pl} {outs : List Slot} {i : Nat} {o : Slot}, outAt j ps outs = none → ps[i]? = some (.slot j) → outs[i]? = some o → False
  | p :: ps, o' :: os, 0, o, h, h1, h2 => by
    simp at h1; subst h1
    unfold outAt at h
    rw [if_pos (isSlot_iff.mpr rfl)] at h; cases h
  | p :: ps, o' :: os, i + 1, o, h, h1, h2 => by
    unfold outAt at h
    by_cases hs : isSlot j p = true
    · rw [if_pos hs] at h; cases h
    · rw [if_neg hs] at h
      exact outAt_none h (by simpa using h1) (by simpa using h2)
  | [], _, _, _, _, h1, _ => by simp at h1
  | _ :: _, [], _, _, _, _, h2 => by simp at h2
theorem noDup_ne : ∀ {ps : List Pl} {i k j : Nat}, noDup ps = true → i ≠ k → ps[i]? = some (.slot j) → ps[k]? = some (.slot j) → False
  | [], _, _, _, _, _, h, _ => by simp at h
  | p :: ps, 0, 0, _, _, hik, _, _ => hik rfl
  | p :: ps, 0, k + 1, j, hd, _, h1, h2 => by
    simp at h1; subst h1
    simp only [noDup, Bool.and_eq_true, Bool.not_eq_true'] at hd
    have h2 : ps[k]? = some (.slot j) := by simpa using h2
    have := List.any_eq_false.mp hd.1 _ (List.mem_of_getElem? h2)
    exact this (isSlot_iff.mpr rfl)
  | p :: ps, i + 1, 0, j, hd, _, h1, h2 => by
    simp at h2; subst h2
    simp only [noDup, Bool.and_eq_true, Bool.not_eq_true'] at hd
    have h1 : ps[i]? = some (.slot j) := by simpa using h1
    have := List.any_eq_false.mp hd.1 _ (List.mem_of_getElem? h1)
    exact this (isSlot_iff.mpr rfl)
  | p :: ps, i + 1, k + 1, j, hd, hik, h1, h2 => by
    have hd' : noDup ps = true := by
      cases p with
      | val d => exact hd
      | tmp d => exact hd
      | slot n => simp only [noDup, Bool.and_eq_true] at hd; exact hd.2
    exact noDup_ne (i := i) (k := k) hd' (fun z => hik (congrArg Nat.succ z)) (by simpa using h1) (by simpa using h2)
theorem argsOf_get : ∀ {ps : List Pl} {ρ : Rho} {as : List (D × Md)} {i : Nat} {a : D × Md}, argsOf ps ρ = some as → as[i]? = some a → ∃ p, ps[i]? = some p ∧ argOf p ρ = some a
  | [], _, _, i, a, h, ha => by cases h; simp at ha
  | p :: ps, ρ, as, i, a, h, ha => by
    unfold argsOf at h
    cases e1 : argOf p ρ with
    | none => simp [e1] at h
    | some a1 =>
      cases e2 : argsOf ps ρ with
      | none => simp [e1, e2] at h
      | some as1 =>
        simp only [e1, e2, Option.some.injEq] at h
        subst h
        cases i with
        | zero => simp at ha; subst ha; exact ⟨p, rfl, e1⟩
        | succ i =>
          obtain ⟨q, h1, h2⟩ := argsOf_get e2 (by simpa using ha)
          exact ⟨q, by simpa using h1, h2⟩
theorem argsOf_len : ∀ {ps : List Pl} {ρ : Rho} {as : List (D × Md)}, argsOf ps ρ = some as → as.length = ps.length
  | [], _, _, h => by cases h; rfl
  | p :: ps, ρ, as, h => by
    unfold argsOf at h
    cases e1 : argOf p ρ with
    | none => simp [e1] at h
    | some a1 =>
      cases e2 : argsOf ps ρ with
      | none => simp [e1, e2] at h
      | some as1 =>
        simp only [e1, e2, Option.some.injEq] at h
        subst h
        simp [argsOf_len e2]
theorem argsOf_of {ps : List Pl} {ρ : Rho} {as : List (D × Md)} {i : Nat} {p : Pl} (h : argsOf ps ρ = some as) (hp : ps[i]? = some p) : ∃ a : D × Md, as[i]? = some a ∧ argOf p ρ = some a := by
  have hl := argsOf_len h
  have hi : i < as.length := by rw [hl]; exact (List.getElem?_eq_some_iff.mp hp).1
  have ea : as[i]? = some as[i] := by simp [hi]
  obtain ⟨q, h1, h2⟩ := argsOf_get h ea
  rw [hp] at h1; cases h1
  exact ⟨_, ea, h2⟩
def callM (M : FM) (ps : List Pl) (ρ : Rho) : R Pl := match argsOf ps ρ with
  | none => .bad
  | some as => if noDup ps = true then (match M as with
    | .ok d fr outs => .ok (plR d fr) (gb ps outs 0 ρ)
    | .exc x outs => .exc x (gb ps outs 0 ρ)
    | .bad => .bad) else .bad
def cCall (M : FM) (c : CA) : CE := fun ρ => (c ρ).bind fun ps ρ1 => callM M ps ρ1
section
variable {K : PySem.W.Frag} {L : L2.St} {B G H : Hp} {σ : L2.St} {ρ : Rho} {ps : List Pl} {vs : List V} {as : List (D × Md)}
def lentVs (as : List (D × Md)) (vs : List V) : List V := (as.zip vs).filterMap fun q => if q.1.2 = .lent then some q.2 else none
theorem mem_lentVs {v : V} (h : v ∈ lentVs as vs) : ∃ (i : Nat) (d : D), as[i]? = some (d, .lent) ∧ vs[i]? = some v := by
  obtain ⟨q, hq, e⟩ := List.mem_filterMap.mp h
  obtain ⟨i, hi⟩ := List.getElem?_of_mem hq
  rw [List.getElem?_zip_eq_some] at hi
  obtain ⟨⟨d, m⟩, v'⟩ := q
  split at e
  · rename_i hm
    cases e
    have hm : m = .lent := hm
    subst hm
    exact ⟨i, d, hi.1, hi.2⟩
  · cases e
theorem lentVs_mem {i : Nat} {d : D} {v : V} (h1 : as[i]? = some (d, .lent)) (h2 : vs[i]? = some v) : v ∈ lentVs as vs :=
  List.mem_filterMap.mpr ⟨((d, .lent), v), List.mem_of_getElem? (List.getElem?_zip_eq_some.mpr ⟨h1, h2⟩), by simp⟩
/-- what a callee must leave -/
def calB (H : Hp) (as : List (D × Md)) (vs : List V) : Hp := fun b => if V.ref b ∈ lentVs as vs then none else H b
theorem calB_same : Same (calB H as vs) H := fun b o e => by
  unfold calB at e
  split at e
  · cases e
  · exact e
/-- a lent argument is a name's own list -/
theorem lent_slot (fx : PlA K σ G vs ps) (ha : argsOf ps ρ = some as) {i : Nat} {d : D} {v : V} (h1 : as[i]? = some (d, .lent)) (h2 : vs[i]? = some v) :
    ∃ (j : Nat) (m : Md), ps[i]? = some (Pl.slot j) ∧ σ[j]? = some (some v) ∧ ρ[j]? = some (some (d, m)) ∧ (m = .own ∨ m = .lent) := by
  obtain ⟨p, h3, h4⟩ := argsOf_get ha h1
  obtain ⟨v', h5, h6⟩ := fx.get h3
  rw [h2] at h5; cases h5
  cases p with
  | val x => cases h4
  | tmp x => cases h4
  | slot j =>
    unfold argOf at h4
    cases q : ρ[j]? with
    | none => simp [q] at h4
    | some o =>
      cases o with
      | none => simp [q] at h4
      | some w =>
        obtain ⟨d', m⟩ := w
        cases m with
        | own => simp only [q, Option.some.injEq, Prod.mk.injEq] at h4; obtain ⟨rfl, _⟩ := h4; exact ⟨j, .own, h3, h6, q, .inl rfl⟩
        | lent => simp only [q, Option.some.injEq, Prod.mk.injEq] at h4; obtain ⟨rfl, _⟩ := h4; exact ⟨j, .lent, h3, h6, q, .inr rfl⟩
        | fz => simp [q] at h4
        | lz => simp [q] at h4
theorem calArgs (rel : Rel K L B σ ρ G H) (fx : PlA K σ G vs ps) (ha : argsOf ps ρ = some as) (nd : noDup ps = true) : ArgsOk K G H (calB H as vs) vs as := by
  refine ⟨by rw [fx.length, argsOf_len ha], fun i p hp => ?_, fun i j p q v hij hp hq e1 e2 h1 h2 => ?_⟩
  · obtain ⟨pl, h3, h4⟩ := argsOf_get ha hp
    obtain ⟨v, h5, h6⟩ := fx.get h3
    obtain ⟨d, m⟩ := p
    have key : m = .lent → SlotOk K G H (calB H as vs) v (d, m) := fun z => by
      subst z
      obtain ⟨j, m', _, h8, h9, h10⟩ := lent_slot fx ha hp h5
      obtain ⟨v', h11, h12⟩ := rel.slots j _ h9
      rw [h8] at h11; cases h11
      obtain ⟨a, rfl, g1, b1, c1⟩ := h12.own (by rcases h10 with rfl | rfl <;> rfl)
      exact ⟨a, rfl, g1, if_pos (lentVs_mem hp h5), c1⟩
    have fzk : m = .fz → SlotOk K G H (calB H as vs) v (d, m) := fun z => by
      subst z
      cases pl with
      | val x => cases h4; exact h6
      | tmp x => cases h4; exact h6
      | slot j =>
        unfold argOf at h4
        cases q : ρ[j]? with
        | none => simp [q] at h4
        | some o =>
          cases o with
          | none => simp [q] at h4
          | some w =>
            obtain ⟨d', m'⟩ := w
            obtain ⟨v', h11, h12⟩ := rel.slots j _ q
            have h6' : σ[j]? = some (some v) := h6
            rw [h6'] at h11; cases h11
            cases m' with
            | own => simp [q] at h4
            | lent => simp [q] at h4
            | fz => simp only [q, Option.some.injEq, Prod.mk.injEq] at h4; obtain ⟨rfl, _⟩ := h4; exact h12
            | lz => simp only [q, Option.some.injEq, Prod.mk.injEq] at h4; obtain ⟨rfl, _⟩ := h4; exact h12
    have hm : m = .fz ∨ m = .lent := by
      cases pl with
      | val x => cases h4; exact .inl rfl
      | tmp x => cases h4; exact .inl rfl
      | slot j =>
        unfold argOf at h4
        cases q : ρ[j]? with
        | none => simp [q] at h4
        | some o =>
          cases o with
          | none => simp [q] at h4
          | some w =>
            obtain ⟨d', m'⟩ := w
            cases m' with
            | own => simp only [q, Option.some.injEq, Prod.mk.injEq] at h4; exact .inr h4.2.symm
            | lent => simp only [q, Option.some.injEq, Prod.mk.injEq] at h4; exact .inr h4.2.symm
            | fz => simp only [q, Option.some.injEq, Prod.mk.injEq] at h4; exact .inl h4.2.symm
            | lz => simp only [q, Option.some.injEq, Prod.mk.injEq] at h4; exact .inl h4.2.symm
    exact ⟨v, h5, hm.elim fzk key, hm⟩
  · obtain ⟨d1, m1⟩ := p
    obtain ⟨d2, m2⟩ := q
    have e1 : m1 = .lent := e1
    have e2 : m2 = .lent := e2
    subst e1 e2
    obtain ⟨j1, n1, a1, b1, c1, f1⟩ := lent_slot fx ha hp h1
    obtain ⟨j2, n2, a2, b2, c2, f2⟩ := lent_slot fx ha hq h2
    by_cases hj : j1 = j2
    · subst hj; exact noDup_ne nd hij a1 a2
    · exact rel.sep j1 j2 _ _ v hj c1 c2 (by rcases f1 with rfl | rfl <;> rfl) (by rcases f2 with rfl | rfl <;> rfl) b1 b2
theorem gbAt_cases {j : Nat} {outs : List Slot} {s : Slot} {p2 : D × Md} (h : gbAt ps outs j s = some p2) :
    (s = some p2 ∧ (p2.2.isFz = true ∨ outAt j ps outs = none)) ∨ (∃ d d' m m' , s = some (d, m) ∧ outAt j ps outs = some (some (d', m')) ∧ p2.1 = d' ∧ ((m' = .lent ∧ p2.2 = m ∧ (m = .own ∨ m = .lent)) ∨ (m' = .lz ∧ ((m = .own ∧ p2.2 = .fz) ∨ (m = .lent ∧ p2.2 = .lz))))) := by
  cases s with
  | none => cases h
  | some q =>
    obtain ⟨d, m⟩ := q
    cases m with
    | fz => cases h; exact .inl ⟨rfl, .inl rfl⟩
    | lz => cases h; exact .inl ⟨rfl, .inl rfl⟩
    | own =>
      unfold gbAt at h
      cases q : outAt j ps outs with
      | none => simp only [q] at h; cases h; exact .inl ⟨rfl, .inr rfl⟩
      | some o =>
        cases o with
        | none => simp only [q] at h; cases h
        | some w =>
          obtain ⟨d', m'⟩ := w
          cases m' with
          | lent => simp only [q] at h; cases h; exact .inr ⟨d, d', .own, .lent, rfl, rfl, rfl, .inl ⟨rfl, rfl, .inl rfl⟩⟩
          | lz => simp only [q] at h; cases h; exact .inr ⟨d, d', .own, .lz, rfl, rfl, rfl, .inr ⟨rfl, .inl ⟨rfl, rfl⟩⟩⟩
          | own => simp only [q] at h; cases h
          | fz => simp only [q] at h; cases h
    | lent =>
      unfold gbAt at h
      cases q : outAt j ps outs with
      | none => simp only [q] at h; cases h; exact .inl ⟨rfl, .inr rfl⟩
      | some o =>
        cases o with
        | none => simp only [q] at h; cases h
        | some w =>
          obtain ⟨d', m'⟩ := w
          cases m' with
          | lent => simp only [q] at h; cases h; exact .inr ⟨d, d', .lent, .lent, rfl, rfl, rfl, .inl ⟨rfl, rfl, .inr rfl⟩⟩
          | lz => simp only [q] at h; cases h; exact .inr ⟨d, d', .lent, .lz, rfl, rfl, rfl, .inr ⟨rfl, .inr ⟨rfl, rfl⟩⟩⟩
          | own => simp only [q] at h; cases h
          | fz => simp only [q] at h; cases h
theorem calRel (rel : Rel K L B σ ρ G H) (fx : PlA K σ G vs ps) (ha : argsOf ps ρ = some as) (nd : noDup ps = true) {outs : List Slot} {G' H' : Hp} (af : After K (calB H as vs) G vs as outs G' H') :
    Rel K L B σ (gb ps outs 0 ρ) G' H' ∧ Ext B G G' := by
  have gg : ∀ {j : Nat} {p : D × Md}, (gb ps outs 0 ρ)[j]? = some (some p) → ∃ s, ρ[j]? = some s ∧ gbAt ps outs j s = some p := by
    intro j p h
    rw [gb_get, Nat.zero_add] at h
    cases q : ρ[j]? with
    | none => rw [q] at h; cases h
    | some s => rw [q] at h; exact ⟨s, rfl, Option.some.inj h⟩
  -- a passed name's out
  have oo : ∀ {j : Nat} {d : D} {m : Md} {o : Slot}, ρ[j]? = some (some (d, m)) → (m = .own ∨ m = .lent) → outAt j ps outs = some o → ∃ (i : Nat) (v : V), as[i]? = some (d, Md.lent) ∧ vs[i]? = some v ∧ σ[j]? = some (some v) ∧ outs[i]? = some o := by
    intro j d m o h1 h2 h3
    obtain ⟨i, h4, h5⟩ := outAt_some h3
    obtain ⟨v, h6, h7⟩ := fx.get h4
    obtain ⟨a, h8, h9⟩ := argsOf_of ha h4
    have : a = (d, .lent) := by
      unfold argOf at h9
      rcases h2 with rfl | rfl <;> (simp only [h1, Option.some.injEq] at h9; exact h9.symm)
    subst this
    exact ⟨i, v, h8, h6, h7, h5⟩
  -- a name that wasn't passed keeps its list
  have np : ∀ {j : Nat} {d : D} {m : Md} {a : Addr}, ρ[j]? = some (some (d, m)) → m.isFz = false → outAt j ps outs = none → σ[j]? = some (some (.ref a)) → V.ref a ∉ lentVs as vs := by
    intro j d m a h1 h2 h3 h4 h5
    obtain ⟨i, d1, h6, h7⟩ := mem_lentVs h5
    obtain ⟨j', m', h8, h9, h10, h11⟩ := lent_slot fx ha h6 h7
    by_cases hj : j' = j
    · subst hj
      obtain ⟨d', m2, h12, _, _⟩ := af.out i d1 _ h6 h7
      exact outAt_none h3 h8 h12
    · exact rel.sep j' j _ _ _ hj h10 h1 (by rcases h11 with rfl | rfl <;> rfl) h2 h9 h4
  have ext : Ext B G G' := ⟨af.ext.same, fun b h => by
    rcases af.ext.new b h with z | z | z
    · exact .inl z
    · unfold calB at z
      split at z
      · rename_i hm
        obtain ⟨i, d1, h6, h7⟩ := mem_lentVs hm
        obtain ⟨j', m', h8, h9, h10, h11⟩ := lent_slot fx ha h6 h7
        obtain ⟨v', h12, h13⟩ := rel.slots j' _ h10
        rw [h9] at h12; cases h12
        obtain ⟨a, e, _, hb, _⟩ := h13.own (by rcases h11 with rfl | rfl <;> rfl)
        cases e
        exact .inr (.inl hb)
      · exact .inr (.inl (rel.base.free z))
    · exact .inr (.inr z)⟩
  have keepA : ∀ {a : Addr} {o : HO}, H a = some o → V.ref a ∉ lentVs as vs → H' a = some o := fun {a o} h1 h2 => af.base a o (by unfold calB; rw [if_neg h2]; exact h1)
  have base' : Same B H' := fun b o e => by
    refine keepA (rel.base b o e) fun hm => ?_
    obtain ⟨i, d1, h6, h7⟩ := mem_lentVs hm
    obtain ⟨j', m', h8, h9, h10, h11⟩ := lent_slot fx ha h6 h7
    obtain ⟨v', h12, h13⟩ := rel.slots j' _ h10
    rw [h9] at h12; cases h12
    obtain ⟨a, e', _, hb, _⟩ := h13.own (by rcases h11 with rfl | rfl <;> rfl)
    cases e'
    rw [hb] at e; cases e
  refine ⟨⟨af.sub, base', by rw [gb_length]; exact rel.len, fun j p hp => ?_, fun j k p q v hjk hp hq hf hf' hv => ?_, fun j v hj => ?_⟩, ext⟩
  · obtain ⟨s, h1, h2⟩ := gg hp
    rcases gbAt_cases h2 with ⟨rfl, h3⟩ | ⟨d, d', m, m', rfl, h3, h4, h5⟩
    · obtain ⟨v, h4, h5⟩ := rel.slots j _ h1
      refine ⟨v, h4, ?_⟩
      cases hfz : p.2.isFz with
      | true =>
        have := (h5.fz hfz).mono af.ext.same
        obtain ⟨d, m⟩ := p
        cases m with
        | fz => exact this
        | lz => exact this
        | own => cases hfz
        | lent => cases hfz
      | false =>
        have h3' : outAt j ps outs = none := by
          rcases h3 with z | z
          · rw [hfz] at z; cases z
          · exact z
        obtain ⟨a, rfl, g1, b1, c1⟩ := h5.own hfz
        obtain ⟨d, m⟩ := p
        have hn := np h1 hfz h3' h4
        have c2 : Cont K G' H' a d := (c1.heap fun o e => keepA e hn).mono af.ext.same
        have g2 : G' a = none := by
          cases q : G' a with
          | none => rfl
          | some o =>
            rcases af.ext.new a (by rw [q]; simp) with z | z | ⟨us, z⟩
            · exact absurd g1 z
            · unfold calB at z
              rw [if_neg hn] at z
              obtain ⟨o', ho⟩ := c1.there
              rw [ho] at z; cases z
            · exact (c2.notTup (af.sub _ _ z)).elim
        cases m with
        | fz => cases hfz
        | lz => cases hfz
        | own => exact ⟨a, rfl, g2, b1, c2⟩
        | lent => exact ⟨a, rfl, g2, b1, c2⟩
    · have hm : m = .own ∨ m = .lent := by
        rcases h5 with ⟨_, _, z⟩ | ⟨_, ⟨z, _⟩ | ⟨z, _⟩⟩
        · exact z
        · exact .inl z
        · exact .inr z
      obtain ⟨i, v, h6, h7, h8, h9⟩ := oo h1 hm h3
      obtain ⟨d2, m2, h10, h11, h12⟩ := af.out i d v h6 h7
      rw [h9] at h10; cases h10
      refine ⟨v, h8, ?_⟩
      obtain ⟨v', h13, h14⟩ := rel.slots j _ h1
      rw [h8] at h13; cases h13
      obtain ⟨a, rfl, g1, b1, c1⟩ := h14.own (by rcases hm with rfl | rfl <;> rfl)
      obtain ⟨pd, pm⟩ := p
      have h4 : pd = d' := h4
      subst h4
      rcases h5 with ⟨rfl, e, _⟩ | ⟨rfl, ⟨_, e⟩ | ⟨_, e⟩⟩
      · have e : pm = m := e
        subst e
        obtain ⟨a2, e2, g2, _, c2⟩ := h12
        cases e2
        rcases hm with rfl | rfl
        · exact ⟨a, rfl, g2, b1, c2⟩
        · exact ⟨a, rfl, g2, b1, c2⟩
      · have e : pm = .fz := e
        subst e; exact h12
      · have e : pm = .lz := e
        subst e; exact h12
  · obtain ⟨s, h1, h2⟩ := gg hp
    obtain ⟨s', h1', h2'⟩ := gg hq
    have un : ∀ {j : Nat} {s : Slot} {p : D × Md}, gbAt ps outs j s = some p → p.2.isFz = false → ∃ q, s = some q ∧ q.2.isFz = false := by
      intro j s p h hf
      rcases gbAt_cases h with ⟨rfl, _⟩ | ⟨d, d', m, m', rfl, _, _, h5⟩
      · exact ⟨p, rfl, hf⟩
      · refine ⟨(d, m), rfl, ?_⟩
        rcases h5 with ⟨_, _, rfl | rfl⟩ | ⟨_, ⟨rfl, _⟩ | ⟨rfl, _⟩⟩ <;> rfl
    obtain ⟨q1, rfl, f1⟩ := un h2 hf
    obtain ⟨q2, rfl, f2⟩ := un h2' hf'
    exact rel.sep j k q1 q2 v hjk h1 h1' f1 f2 hv
  · obtain ⟨h1, d, m, h2, h3⟩ := rel.lent j v hj
    refine ⟨h1, ?_⟩
    rw [gb_get, Nat.zero_add, h2]
    rcases h3 with rfl | rfl
    · cases q : outAt j ps outs with
      | none => exact ⟨d, .lent, by simp only [Option.map_some, gbAt, q], .inl rfl⟩
      | some o =>
        obtain ⟨i, v', h6, h7, h8, h9⟩ := oo h2 (.inr rfl) q
        obtain ⟨d2, m2, h10, h11, h12⟩ := af.out i d v' h6 h7
        rw [h9] at h10; cases h10
        rcases h11 with rfl | rfl
        · exact ⟨d2, .lent, by simp only [Option.map_some, gbAt, q], .inl rfl⟩
        · exact ⟨d2, .lz, by simp only [Option.map_some, gbAt, q], .inr rfl⟩
    · exact ⟨d, .lz, rfl, .inr rfl⟩
end
section
variable {X : Cx} {k n : Nat} {f : Addr} {fd : FuncData} {pn : List Str} {M : FM} {x : Str} {p pos : Pos} {e : Expr} {es : List Expr} {cr : CA}
theorem call_imp {W : WX} {L : L2.St} {σ : L2.St} {G B H1 : Hp} {Q : VK} {ρ1 : Rho} {ps : List Pl} {vs : List V} (rel1 : Rel X.K L B σ ρ1 G H1) (fx : PlA X.K σ G vs ps) (h : GotP X L W σ G B (callM M ps ρ1) Q) (hn : ps.length = n) :
    spF X.K X.mg n M vs H1 Q (WE W σ) := by
  unfold callM at h
  cases e1 : argsOf ps ρ1 with
  | none => simp only [e1] at h; exact h.elim
  | some as =>
    simp only [e1] at h
    by_cases nd : noDup ps = true
    · rw [if_pos nd] at h
      refine ⟨G, calB H1 as vs, as, by rw [fx.length]; exact hn, rel1.sub, calB_same, calArgs rel1 fx e1 nd, ?_⟩
      cases e2 : M as with
      | bad => simp only [e2] at h; exact h.elim
      | exc y outs =>
        simp only [e2] at h
        intro cls d H' G' af hx
        obtain ⟨r', e'⟩ := calRel rel1 fx e1 nd af
        refine h cls d H' G' r' e' ?_
        obtain ⟨C, h1, h2, h3⟩ := hx
        refine ⟨C, h1, h2, ?_⟩
        rcases h3 with z | ⟨dd, fs, h4, h5, h6, h7⟩
        · exact .inl z
        · refine .inr ⟨dd, fs, h4, h5, ?_, h7⟩
          unfold calB at h6
          split at h6
          · rename_i hm
            obtain ⟨i, d1, h8, h9⟩ := mem_lentVs hm
            obtain ⟨j', m', _, h10, h11, h12⟩ := lent_slot fx e1 h8 h9
            obtain ⟨v', h13, h14⟩ := rel1.slots j' _ h11
            rw [h10] at h13; cases h13
            obtain ⟨a, e', _, hb, _⟩ := h14.own (by rcases h12 with rfl | rfl <;> rfl)
            cases e'
            exact hb
          · exact rel1.base.free h6
      | ok d fr outs =>
        simp only [e2] at h
        intro v H' G' af hf ht
        obtain ⟨r', e'⟩ := calRel rel1 fx e1 nd af
        refine h v H' G' r' e' ?_
        cases fr with
        | false => exact hf rfl
        | true =>
          obtain ⟨a, rfl, g1, b1, c1, hs⟩ := ht rfl
          refine ⟨a, rfl, g1, ?_, c1, fun j q hq hfz hv => ?_⟩
          · unfold calB at b1
            split at b1
            · rename_i hm
              obtain ⟨i, d1, h8, h9⟩ := mem_lentVs hm
              obtain ⟨j', m', _, h10, h11, h12⟩ := lent_slot fx e1 h8 h9
              obtain ⟨v', h13, h14⟩ := rel1.slots j' _ h11
              rw [h10] at h13; cases h13
              obtain ⟨a, e', _, hb, _⟩ := h14.own (by rcases h12 with rfl | rfl <;> rfl)
              cases e'
              exact hb
            · exact rel1.base.free b1
          · have hq0 := hq
            rw [gb_get, Nat.zero_add] at hq
            cases q0 : ρ1[j]? with
            | none => rw [q0] at hq; cases hq
            | some s =>
              rw [q0] at hq
              have hq := Option.some.inj hq
              rcases gbAt_cases hq with ⟨rfl, h3⟩ | ⟨d0, d', m, m', rfl, h3, h4, h5⟩
              · obtain ⟨v', h13, h14⟩ := rel1.slots j _ q0
                rw [hv] at h13; cases h13
                obtain ⟨a', e', _, hb, c0⟩ := h14.own hfz
                cases e'
                have h3 : outAt j ps outs = none := by
                  rcases h3 with z | z
                  · rw [hfz] at z; cases z
                  · exact z
                -- not passed: it was there already
                obtain ⟨o, ho⟩ := c0.there
                have nl : V.ref a ∉ lentVs as vs := fun hm => by
                  obtain ⟨i, d1, h6, h7⟩ := mem_lentVs hm
                  obtain ⟨j', m', h8, h9, h10, h11⟩ := lent_slot fx e1 h6 h7
                  by_cases hj : j' = j
                  · subst hj
                    obtain ⟨d', m2, h12, _, _⟩ := af.out i d1 _ h6 h7
                    exact outAt_none h3 h8 h12
                  · exact rel1.sep j' j _ _ _ hj h10 q0 (by rcases h11 with rfl | rfl <;> rfl) hfz h9 hv
                unfold calB at b1
                rw [if_neg nl] at b1
                rw [ho] at b1; cases b1
              · obtain ⟨i, h6, h7⟩ := outAt_some h3
                obtain ⟨v', h8, h9⟩ := fx.get h6
                have h9 : σ[j]? = some (some v') := h9
                rw [hv] at h9; cases h9
                obtain ⟨a2, h10, h11⟩ := argsOf_of e1 h6
                have hm : m = .own ∨ m = .lent := by
                  rcases h5 with ⟨_, _, z⟩ | ⟨_, ⟨z, _⟩ | ⟨z, _⟩⟩
                  · exact z
                  · exact .inl z
                  · exact .inr z
                have : a2 = (d0, .lent) := by
                  unfold argOf at h11
                  rcases hm with rfl | rfl <;> (simp only [q0, Option.some.injEq] at h11; exact h11.symm)
                subst this
                have hm' : m' = .lent := by
                  rcases h5 with ⟨z, _, _⟩ | ⟨_, ⟨_, z⟩ | ⟨_, z⟩⟩
                  · exact z
                  · rw [z] at hfz; cases hfz
                  · rw [z] at hfz; cases hfz
                subst hm'
                exact hs i d0 _ d' h10 h8 h7 rfl
    · rw [if_neg nd] at h; exact h.elim
/-- what an argument list gives has its length -/
def LenA (c : CA) (n : Nat) : Prop := ∀ ρ ps ρ', c ρ = .ok ps ρ' → ps.length = n
theorem lenA_nil : LenA cNil 0 := fun ρ ps ρ' h => by cases h; rfl
theorem lenA_cons {a : CE} {r : CA} {n : Nat} (h : LenA r n) : LenA (cCons a r) (n + 1) := fun ρ ps ρ' e => by
  unfold cCons at e
  cases q : a ρ with
  | bad => rw [q] at e; cases e
  | exc x ρ1 => rw [q] at e; cases e
  | ok p ρ1 =>
    rw [q] at e
    simp only [R.bind] at e
    cases q2 : r ρ1 with
    | bad => rw [q2] at e; cases e
    | exc x ρ1 => rw [q2] at e; cases e
    | ok ps2 ρ2 =>
      rw [q2] at e
      simp only [R.ok.injEq] at e
      obtain ⟨rfl, rfl⟩ := e
      simp [h _ _ _ q2]
theorem sx_call (F : FnOk X.prog X.w X.K X.mg X.base (L2.CX X.prog X.w) k f fd pn (spF X.K X.mg n M)) (hr : Room k X.A) (hg : Gl X x) (hm : X.mg x = some (.ref f)) (hk : PySem.W.keepIn X.K (.ref f) = true) (hb : Binds X.K fd pn []) (hl : LenA cr n) (ha : SA X (e :: es) cr)
    (hdb : (x == ("__debug__" : Str)) = false := by decide) (he : starEach (e :: es) X.env = (false, eval e X.env) :: starEach es X.env := by rfl) (hpl : (backTo pos (starEach es X.env)).any (·.1) = false := by rfl) :
    SX X (.Call (.Name x p) (e :: es) [] pos) (cCall M cr) := fun W tk => PEimp (pe_callS F hr hg hm hk hb (fun σ => passAt tk σ) (ha W tk) hdb he hpl) (by
  rintro σ H Q ⟨L, ρ, G, B, rel, h⟩
  refine ⟨L, ρ, G, B, rel, (Got.bindA h).mono ?_⟩
  rintro vs H1 ⟨ps, ρ1, G1, e1, rel1, _, fx, h1⟩
  exact call_imp rel1 fx h1 (hl _ _ _ e1))
end
/-- a def at any level -/
theorem FnOk.up {P : Program} {w : World} {K : PySem.W.Frag} {mg : Str → Option Value} {base : Heap} {CX : CXT} {k : Nat} {f : Addr} {fd : FuncData} {pn : List Str} {sp : Sp} (F : FnOk P w K mg base CX k f fd pn sp) {j : Nat} (h : k ≤ j) : FnOk P w K mg base CX j f fd pn sp := F.mono h

/-! ### a law's end -/
theorem sp_law {K : PySem.W.Frag} {mg : Str → Option Value} {M : FM} (hM : ∀ ns : List Int, ns.length ≤ 63 → ∃ outs, M [(.list (ns.map PyData.int), .fz)] = .ok (.bool true) false outs) (H : Hp) (a : Addr) (ns : List Int) (hl : ns.length ≤ 63) (hS : Rd H a (.lst (ns.map V.int))) :
    spF K mg 1 M [.ref a] H (fun v _ => v = .bl true) fun _ _ _ => False := by
  obtain ⟨outs, e⟩ := hM ns hl
  refine ⟨H, H, [(.list (ns.map PyData.int), .fz)], rfl, Same.refl _, Same.refl _, ⟨rfl, fun i p hp => ?_, fun i j p q v hij hp hq e1 e2 => ?_⟩, ?_⟩
  · cases i with
    | zero => simp at hp; subst hp; exact ⟨_, rfl, .lst hS (FzA.of_ints ns), .inl rfl⟩
    | succ i => simp at hp
  · cases i with
    | zero => simp at hp; subst hp; cases e1
    | succ i => simp at hp
  · rw [e]
    intro v H' G' af h1 _
    have := h1 rfl
    cases this; rfl
theorem no_exc {P : Program} {w : World} : ∀ (H : Hp) (s : Shared) (e : Value) (s' : Shared), L2.CX P w [] H s (fun _ _ _ => False) e s' → False := by
  intro H s e s' h
  obtain ⟨_, _, _, _, _, _, _, _, _, _, _, _, z⟩ := h
  exact z.elim
end TN
namespace TN
open PySem PySem.Spec PyProof.Rows L2

/-! ### list comprehensions -/
/-- the block's own names emptied -/
def wipeR (ρ : Rho) : List Nat → Rho
  | [] => ρ
  | v :: vs => (wipeR ρ vs).set v none
/-- .. and put back as they were in ρ0 -/
def backR (ρ0 ρ : Rho) : List Nat → Rho
  | [] => ρ
  | v :: vs => match ρ0[v]? with
    | some s => (backR ρ0 ρ vs).set v s
    | none => backR ρ0 ρ vs
/-- the block's own names are empty, or frozen values -/
def wipeOk (ρ : Rho) (vs : List Nat) : Bool := vs.all fun v => match ρ[v]? with
  | some none => true
  | some (some (_, .fz)) => true
  | _ => false
def compL (g : D → Rho → Option Rho) (t : CB) (e : CE) (vs : List Nat) : List D → List D → Rho → R (List D)
  | [], acc, ρ => .ok acc ρ
  | d :: ds, acc, ρ => match g d ρ with
    | none => .bad
    | some ρ1 => match t ρ1 with
      | .ok true ρ2 => (match e ρ2 with
        | .ok p ρ3 => (match frz p ρ3 with
          | some (x, ρ4) => if acc.length < 16777216 ∧ wipeOk ρ4 vs = true then compL g t e vs ds (acc ++ [x]) (wipeR ρ4 vs) else .bad
          | none => .bad)
        | _ => .bad)
      | .ok false ρ2 => if wipeOk ρ2 vs = true then compL g t e vs ds acc (wipeR ρ2 vs) else .bad
      | _ => .bad
def cComp (ci : CI) (g : D → Rho → Option Rho) (t : CB) (e : CE) (vs : List Nat) : CE := fun ρ => match ci ρ with
  | .ok ds ρ1 => if wipeOk ρ1 vs = true then (match compL g t e vs ds [] (wipeR ρ1 vs) with
      | .ok acc ρ2 => .ok (.tmp (.list acc)) (backR ρ1 ρ2 vs)
      | .exc x ρ2 => .bad
      | .bad => .bad) else .bad
  | .exc x ρ1 => .exc x ρ1
  | .bad => .bad
theorem wipeR_length (ρ : Rho) : ∀ vs : List Nat, (wipeR ρ vs).length = ρ.length
  | [] => rfl
  | v :: vs => by unfold wipeR; rw [List.length_set, wipeR_length ρ vs]
theorem wipeR_some {ρ : Rho} {i : Nat} {p : D × Md} : ∀ {vs : List Nat}, (wipeR ρ vs)[i]? = some (some p) → ρ[i]? = some (some p) ∧ i ∉ vs
  | [], h => ⟨h, by simp⟩
  | v :: vs, h => by
    unfold wipeR at h
    by_cases hi : v = i
    · subst hi
      by_cases hv : v < (wipeR ρ vs).length
      · rw [List.getElem?_set_self hv] at h; cases h
      · rw [List.getElem?_eq_none (by simpa using hv)] at h; cases h
    · rw [List.getElem?_set_ne hi] at h
      obtain ⟨h1, h2⟩ := wipeR_some h
      exact ⟨h1, by simp only [List.mem_cons, not_or]; exact ⟨fun e => hi e.symm, h2⟩⟩
theorem wipeR_out {ρ : Rho} {i : Nat} : ∀ {vs : List Nat}, i ∉ vs → (wipeR ρ vs)[i]? = ρ[i]?
  | [], _ => rfl
  | v :: vs, h => by
    simp only [List.mem_cons, not_or] at h
    unfold wipeR
    rw [List.getElem?_set_ne (Ne.symm h.1), wipeR_out h.2]
theorem wipe_out' {σ : L2.St} {i : Nat} : ∀ {vs : List Nat}, i ∉ vs → (wipe σ vs)[i]? = σ[i]?
  | [], _ => rfl
  | v :: vs, h => by
    simp only [List.mem_cons, not_or] at h
    unfold wipe
    rw [List.getElem?_set_ne (Ne.symm h.1), wipe_out' h.2]
theorem backR_length (ρ0 ρ : Rho) : ∀ vs : List Nat, (backR ρ0 ρ vs).length = ρ.length
  | [] => rfl
  | v :: vs => by
    unfold backR
    split
    · rw [List.length_set, backR_length ρ0 ρ vs]
    · exact backR_length ρ0 ρ vs
theorem backR_out {ρ0 ρ : Rho} {i : Nat} : ∀ {vs : List Nat}, i ∉ vs → (backR ρ0 ρ vs)[i]? = ρ[i]?
  | [], _ => rfl
  | v :: vs, h => by
    simp only [List.mem_cons, not_or] at h
    unfold backR
    split
    · rw [List.getElem?_set_ne (Ne.symm h.1), backR_out h.2]
    · exact backR_out h.2
theorem backR_in {ρ0 ρ : Rho} {i : Nat} (hl : ρ0.length = ρ.length) : ∀ {vs : List Nat}, i ∈ vs → (backR ρ0 ρ vs)[i]? = ρ0[i]?
  | [], h => by simp at h
  | v :: vs, h => by
    unfold backR
    by_cases hi : i = v
    · subst hi
      cases q : ρ0[i]? with
      | none =>
        simp only
        rw [List.getElem?_eq_none]
        rw [backR_length, ← hl]
        exact List.getElem?_eq_none_iff.mp q
      | some s =>
        simp only
        rw [List.getElem?_set_self]
        rw [backR_length, ← hl]
        exact (List.getElem?_eq_some_iff.mp q).1
    · have h' : i ∈ vs := by
        rcases List.mem_cons.mp h with z | z
        · exact absurd z hi
        · exact z
      split
      · rw [List.getElem?_set_ne (Ne.symm hi)]; exact backR_in hl h'
      · exact backR_in hl h'
section
variable {K : PySem.W.Frag} {L : L2.St} {B G G1 G2 H H1 : Hp} {σ : L2.St} {ρ ρ1 ρ2 : Rho} {vs : List Nat} {D0 : Addr} {v : V}
theorem wipeOk_at (h : wipeOk ρ vs = true) {i : Nat} (hi : i ∈ vs) : ρ[i]? = some none ∨ ∃ d, ρ[i]? = some (some (d, .fz)) := by
  have := List.all_eq_true.mp h i hi
  split at this
  · rename_i q; exact .inl q
  · rename_i d q; exact .inr ⟨d, q⟩
  · cases this
theorem Rel.wipe (r : Rel K L B σ ρ G H) (h : wipeOk ρ vs = true) : Rel K L B (wipe σ vs) (wipeR ρ vs) G H := by
  refine ⟨r.sub, r.base, by rw [wipeR_length, wipe_length]; exact r.len, fun i p hp => ?_, fun i j p q v hij hp hq hf hf' hv => ?_, fun j v hj => ?_⟩
  · obtain ⟨h1, h2⟩ := wipeR_some hp
    obtain ⟨v, h3, h4⟩ := r.slots i p h1
    exact ⟨v, by rw [wipe_out' h2]; exact h3, h4⟩
  · obtain ⟨h1, h2⟩ := wipeR_some hp
    obtain ⟨h3, h4⟩ := wipeR_some hq
    rw [wipe_out' h2] at hv
    rw [wipe_out' h4]
    exact r.sep i j p q v hij h1 h3 hf hf' hv
  · obtain ⟨h1, d, m, h2, h3⟩ := r.lent j v hj
    have hn : j ∉ vs := fun z => by
      rcases wipeOk_at h z with q | ⟨d', q⟩
      · rw [h2] at q; cases q
      · rw [h2] at q; cases q
        rcases h3 with z | z <;> cases z
    exact ⟨by rw [wipe_out' hn]; exact h1, d, m, by rw [wipeR_out hn]; exact h2, h3⟩
/-- behind the block -/
theorem Rel.back (r0 : Rel K L B σ ρ1 G1 H1) (h : wipeOk ρ1 vs = true) (r : Rel K L B (L2.wipe σ vs) ρ2 G H) (e : Ext B G1 G) : Rel K L B σ (backR ρ1 ρ2 vs) G H := by
  have hl : ρ1.length = ρ2.length := by
    have e1 := r0.len
    have e2 := r.len
    rw [wipe_length] at e2
    omega
  refine ⟨r.sub, r.base, by rw [backR_length, ← hl]; exact r0.len, fun i p hp => ?_, fun i j p q v hij hp hq hf hf' hv => ?_, fun j v hj => ?_⟩
  · by_cases hi : i ∈ vs
    · rw [backR_in hl hi] at hp
      obtain ⟨v, h3, h4⟩ := r0.slots i p hp
      refine ⟨v, h3, ?_⟩
      rcases wipeOk_at h hi with q | ⟨d', q⟩
      · rw [hp] at q; cases q
      · rw [hp] at q; cases q
        exact Fz.mono e.same h4
    · rw [backR_out hi] at hp
      obtain ⟨v, h3, h4⟩ := r.slots i p hp
      exact ⟨v, by rw [wipe_out' hi] at h3; exact h3, h4⟩
  · have no : ∀ {i : Nat} {p : D × Md}, (backR ρ1 ρ2 vs)[i]? = some (some p) → p.2.isFz = false → i ∉ vs := fun {i p} hp hf hi => by
      rw [backR_in hl hi] at hp
      rcases wipeOk_at h hi with q | ⟨d', q⟩
      · rw [hp] at q; cases q
      · rw [hp] at q; cases q
        cases hf
    have hi := no hp hf
    have hj := no hq hf'
    rw [backR_out hi] at hp
    rw [backR_out hj] at hq
    have := r.sep i j p q v hij hp hq hf hf' (by rw [wipe_out' hi]; exact hv)
    rwa [wipe_out' hj] at this
  · obtain ⟨h1, d, m, h2, h3⟩ := r0.lent j v hj
    have hn : j ∉ vs := fun z => by
      rcases wipeOk_at h z with q | ⟨d', q⟩
      · rw [h2] at q; cases q
      · rw [h2] at q; cases q
        rcases h3 with z | z <;> cases z
    obtain ⟨_, d', m', h5, h6⟩ := r.lent j v hj
    exact ⟨h1, d', m', by rw [backR_out hn]; exact h5, h6⟩
/-- the list being made is put among what stands -/
theorem Rel.addB (r : Rel K L B σ ρ G H) (hB : B D0 = none) {o : HO} (ho : H D0 = some o) (hn : ∀ (j : Nat) (p : D × Md), ρ[j]? = some (some p) → p.2.isFz = false → σ[j]? ≠ some (some (.ref D0))) : Rel K L (upd B D0 o) σ ρ G H := by
  refine ⟨r.sub, fun b u q => ?_, r.len, fun i p hp => ?_, r.sep, r.lent⟩
  · by_cases hb : b = D0
    · subst hb; rw [upd_same] at q; cases q; exact ho
    · rw [upd_ne hb] at q; exact r.base b u q
  · obtain ⟨v, h1, h2⟩ := r.slots i p hp
    refine ⟨v, h1, ?_⟩
    cases hf : p.2.isFz with
    | true =>
      have := h2.fz hf
      obtain ⟨d, m⟩ := p
      cases m with
      | fz => exact this
      | lz => exact this
      | own => cases hf
      | lent => cases hf
    | false =>
      obtain ⟨a, rfl, g1, b1, c1⟩ := h2.own hf
      have : a ≠ D0 := fun z => by subst z; exact hn i p hp hf h1
      have b2 : upd B D0 o a = none := by rw [upd_ne this]; exact b1
      obtain ⟨d, m⟩ := p
      cases m with
      | fz => cases hf
      | lz => cases hf
      | own => exact ⟨a, rfl, g1, b2, c1⟩
      | lent => exact ⟨a, rfl, g1, b2, c1⟩
theorem Rel.subB {o : HO} (r : Rel K L (upd B D0 o) σ ρ G H) (hB : B D0 = none) : Rel K L B σ ρ G H ∧ ∀ (j : Nat) (p : D × Md), ρ[j]? = some (some p) → p.2.isFz = false → σ[j]? ≠ some (some (.ref D0)) := by
  have no : ∀ {a : Addr}, upd B D0 o a = none → a ≠ D0 ∧ B a = none := fun {a} h => by
    have : a ≠ D0 := fun z => by subst z; rw [upd_same] at h; cases h
    rw [upd_ne this] at h
    exact ⟨this, h⟩
  refine ⟨⟨r.sub, fun b u q => r.base b u (by rw [upd_ne (ne_of_none q hB)]; exact q), r.len, fun i p hp => ?_, r.sep, r.lent⟩, fun j p hp hf hv => ?_⟩
  · obtain ⟨v, h1, h2⟩ := r.slots i p hp
    refine ⟨v, h1, ?_⟩
    obtain ⟨d, m⟩ := p
    cases m with
    | fz => exact h2
    | lz => exact h2
    | own => obtain ⟨a, e, g1, b1, c1⟩ := h2; exact ⟨a, e, g1, (no b1).2, c1⟩
    | lent => obtain ⟨a, e, g1, b1, c1⟩ := h2; exact ⟨a, e, g1, (no b1).2, c1⟩
  · obtain ⟨v, h1, h2⟩ := r.slots j p hp
    rw [hv] at h1; cases h1
    obtain ⟨a, e, g1, b1, c1⟩ := h2.own hf
    cases e
    exact (no b1).1 rfl
theorem Ext.subB {o : HO} (e : Ext (upd B D0 o) G G1) : Ext B G G1 := ⟨e.same, fun b h => by
  rcases e.new b h with z | z | z
  · exact .inl z
  · have : b ≠ D0 := fun w => by subst w; rw [upd_same] at z; cases z
    rw [upd_ne this] at z
    exact .inr (.inl z)
  · exact .inr (.inr z)⟩
/-- the list grows -/
theorem Rel.grow {o o' : HO} (r : Rel K L (upd B D0 o) σ ρ G H) (hB : B D0 = none) (hG : G D0 = none) : Rel K L B σ ρ G (upd H D0 o') := by
  obtain ⟨r1, hn⟩ := r.subB hB
  refine r1.gb .refl (fun b u q => by rw [upd_ne (ne_of_none q hG)]; exact r1.sub b u q) (fun b u q => by rw [upd_ne (ne_of_none q hB)]; exact r1.base b u q) fun i p a hp hf hv => ?_
  obtain ⟨v, h1, h2⟩ := r1.slots i p hp
  rw [hv] at h1; cases h1
  obtain ⟨a', e, g1, b1, c1⟩ := h2.own hf
  cases e
  have : a ≠ D0 := fun z => by subst z; exact hn i p hp hf hv
  exact ⟨g1, fun u q => by rw [upd_ne this]; exact q⟩
end
section
variable {X : Cx} {elt tg iter : Expr} {ifs : List Expr} {scope : Scope} {own : List (Str × Nat)} {pos : Pos} {ci : CI} {g : D → Rho → Option Rho} {t : CB} {e : CE}
/-- a clause's tests in a block -/
def SPt (X : Cx) (ifs : List Expr) (t : CB) : Prop := ∀ W : WX, Takes X W → PTs X ifs (tT X W t)
theorem spt_nil : SPt X [] (fun ρ => .ok true ρ) := fun W tk => ⟨fun pins s σ H Q I h => pts_nil.run pins s σ H Q I (by
  obtain ⟨L, ρ, G, B, rel, h⟩ := h
  exact h true H G rel .refl rfl)⟩
theorem wipe_get (σ : L2.St) {i : Nat} : ∀ {vs : List Nat}, i ∈ vs → (L2.wipe σ vs)[i]? = if i < σ.length then some none else none
  | [], h => by simp at h
  | w :: ws, h => by
    unfold L2.wipe
    by_cases e : w = i
    · subst e
      rw [List.getElem?_set]
      simp only [if_true, wipe_length]
    · rw [List.getElem?_set_ne e]
      rcases List.mem_cons.mp h with z | z
      · exact absurd z.symm e
      · exact wipe_get σ z
theorem wipe_only {σ σ' : L2.St} {vs ws : List Nat} (o : Only ws (L2.wipe σ vs) σ') (h : ∀ i ∈ ws, i ∈ vs) : L2.wipe σ' vs = L2.wipe σ vs := by
  apply List.ext_getElem?
  intro j
  by_cases hj : j ∈ vs
  · rw [wipe_get _ hj, wipe_get _ hj, o.1, wipe_length]
  · rw [wipe_out' hj, wipe_out' hj, o.2 j (fun z => hj (h j z)), wipe_out' hj]
abbrev Wf : WX := fun _ _ _ _ => False
theorem comp_imp {W : WX} {vs ws : List Nat} (hvs : ∀ i ∈ ws, i ∈ vs) :
    ∀ (σ : L2.St) (H : Hp) (Q : VK), tX X W (cComp ci g t e vs) σ H Q → tLc (tI X W ci) (tG X ws g) (tT X Wf t) (tX X Wf e) vs σ H Q := by
  rintro σ H Q ⟨L, ρ, G, B, rel, h⟩
  refine ⟨L, ρ, G, B, rel, ?_⟩
  unfold cComp at h
  cases q : ci ρ with
  | bad => simp only [q] at h; exact h.elim
  | exc x ρ1 => simp only [q] at h; exact h
  | ok ds ρ1 =>
    simp only [q] at h
    by_cases hw : wipeOk ρ1 vs = true
    case neg => rw [if_neg hw] at h; exact h.elim
    rw [if_pos hw] at h
    intro J H1 G1 rel1 ext1 hit D0 hD
    have hB : B D0 = none := rel1.base.free hD
    cases qc : compL g t e vs ds [] (wipeR ρ1 vs) with
    | bad => simp only [qc] at h; exact h.elim
    | exc x ρ2 => simp only [qc] at h; exact h.elim
    | ok accF ρF =>
    simp only [qc] at h
    -- the invariant: behind i things the list so far, and what the rest gives
    let W0 : Nat → Hp → Prop := fun i H => i ≤ ds.length ∧ ∃ (acc : List D) (xs : List V) (ρ : Rho) (G : Hp), Rel X.K L B (L2.wipe σ vs) ρ G H ∧ Ext B G1 G ∧ G D0 = none ∧ H D0 = some (.lst xs) ∧ FzA X.K G xs acc ∧
      (∀ (j : Nat) (p : D × Md), ρ[j]? = some (some p) → p.2.isFz = false → (L2.wipe σ vs)[j]? ≠ some (some (.ref D0))) ∧ compL g t e vs (ds.drop i) acc ρ = .ok accF ρF
    have noD : ∀ {σ : L2.St} {ρ : Rho} {G H : Hp}, Rel X.K L B σ ρ G H → H D0 = none → ∀ (j : Nat) (p : D × Md), ρ[j]? = some (some p) → p.2.isFz = false → σ[j]? ≠ some (some (.ref D0)) := by
      intro σ ρ G H r hD j p hp hf hv
      obtain ⟨w, h1, h2⟩ := r.slots j p hp
      rw [hv] at h1; cases h1
      obtain ⟨a, e', _, _, c⟩ := h2.own hf
      cases e'
      obtain ⟨o, ho⟩ := c.there
      rw [hD] at ho; cases ho
    have start0 : W0 0 (upd H1 D0 (.lst [])) :=
      ⟨Nat.zero_le _, [], [], wipeR ρ1 vs, G1, (rel1.wipe hw).new (Same.upd_new (o := .lst []) hD), .refl, rel1.sub.free hD, upd_same, .nil, noD (rel1.wipe hw) hD, by simpa using qc⟩
    refine ⟨fun i m H => m = ds.length - i ∧ W0 i H, ⟨_, rfl, start0⟩, ?_⟩
    rintro i m H2 ⟨rfl, hle, acc, xs, ρ2, G2, rel2, ext2, hG2, hx, fx, hn, hc⟩
    obtain ⟨ha, hb⟩ := hit G2 H2 ext2.same rel2.sub i
    by_cases hlt : i < ds.length
    · right
      have ei : ds[i]? = some ds[i] := by simp [hlt]
      obtain ⟨hgo', hy⟩ := ha _ ei
      refine ⟨hgo', fun H' => W0 (i + 1) H', fun H' w => ⟨ds.length - (i + 1), by omega, rfl, w⟩, fun x H3 hyl => ?_⟩
      have relB := rel2.addB hB hx hn
      obtain ⟨G3, r3, x3, f3⟩ := (hy x H3 hyl).ok relB
      rw [List.drop_eq_getElem_cons hlt] at hc
      unfold compL at hc
      refine ⟨L, ρ2, G3, upd B D0 (.lst xs), ds[i], r3, f3, ?_⟩
      cases q1 : g ds[i] ρ2 with
      | none => simp only [q1] at hc; cases hc
      | some ρ3 =>
        simp only [q1] at hc
        intro σ3 H3' G3' r3' x3' ho
        have x3 := x3.trans x3'
        have hwσ : L2.wipe σ3 vs = L2.wipe σ vs := wipe_only ho hvs
        refine ⟨hwσ, L, ρ3, G3', upd B D0 (.lst xs), r3', ?_⟩
        have wipeN : ∀ {ρ' : Rho} {G' H' : Hp}, Rel X.K L (upd B D0 (.lst xs)) σ3 ρ' G' H' → wipeOk ρ' vs = true → Rel X.K L (upd B D0 (.lst xs)) (L2.wipe σ vs) (wipeR ρ' vs) G' H' := by
          intro ρ' G' H' r hwo
          have := r.wipe hwo
          rwa [hwσ] at this
        have gD : ∀ {σ' : L2.St} {ρ' : Rho} {G' H' : Hp}, Rel X.K L (upd B D0 (.lst xs)) σ' ρ' G' H' → Ext (upd B D0 (.lst xs)) G2 G' → G' D0 = none := by
          intro σ' ρ' G' H' r ex
          cases z : G' D0 with
          | none => rfl
          | some o =>
            rcases ex.new D0 (by rw [z]; simp) with w | w | ⟨us, w⟩
            · exact absurd hG2 w
            · rw [upd_same] at w; cases w
            · have z1 := r.sub _ _ w
              have z2 := r.base D0 _ upd_same
              rw [z1] at z2; cases z2
        cases q2 : t ρ3 with
        | bad => simp only [q2] at hc; cases hc
        | exc y ρ4 => simp only [q2] at hc; cases hc
        | ok b ρ4 =>
          intro b' H4 G4 r4 x4 eb
          subst eb
          cases b' with
          | false =>
            simp only [q2] at hc
            rw [if_neg Bool.false_ne_true]
            by_cases hwo : wipeOk ρ4 vs = true
            · rw [if_pos hwo] at hc
              have rN := wipeN r4 hwo
              obtain ⟨rN', nN⟩ := rN.subB hB
              exact ⟨hlt, acc, xs, wipeR ρ4 vs, G4, rN', ext2.trans (x3.subB.trans x4.subB), gD r4 (x3.trans x4), rN.base D0 _ upd_same, fx.mono (x3.trans x4).same, nN, hc⟩
            · rw [if_neg hwo] at hc; cases hc
          | true =>
            simp only [q2] at hc
            rw [if_pos rfl]
            refine ⟨L, ρ4, G4, upd B D0 (.lst xs), r4, ?_⟩
            cases q3 : e ρ4 with
            | bad => simp only [q3] at hc; cases hc
            | exc y ρ5 => simp only [q3] at hc; cases hc
            | ok p ρ5 =>
              simp only [q3] at hc
              intro v H5 G5 r5 x5 ok
              obtain ⟨G6, r6, x6, fx6⟩ := ok.fix r5
              cases q4 : frz p ρ5 with
              | none => simp only [q4] at hc; cases hc
              | some w =>
                obtain ⟨d, ρ6⟩ := w
                simp only [q4] at hc
                obtain ⟨G7, r7, x7, f7⟩ := fx6.frz r6 q4
                by_cases hl : acc.length < 16777216 ∧ wipeOk ρ6 vs = true
                · rw [if_pos hl] at hc
                  have xx : Ext (upd B D0 (.lst xs)) G2 G7 := x3.trans (x4.trans (x5.trans (x6.trans x7)))
                  have hD7 : H5 D0 = some (.lst xs) := r7.base D0 _ upd_same
                  refine ⟨xs, hD7, by rw [fx.length, sizeLine_eq]; exact hl.1, ?_⟩
                  have rN := wipeN r7 hl.2
                  have fx' : FzA X.K G7 (xs ++ [v]) (acc ++ [d]) := (fx.mono xx.same).append (.cons f7 .nil)
                  exact ⟨hlt, acc ++ [d], xs ++ [v], wipeR ρ6 vs, G7, rN.grow hB (gD r7 xx), ext2.trans xx.subB, gD r7 xx, upd_same, fx', (rN.subB hB).2, hc⟩
                · rw [if_neg hl] at hc; cases hc
    · left
      have e' : i = ds.length := by omega
      subst e'
      rw [List.drop_length] at hc
      unfold compL at hc
      simp only [R.ok.injEq] at hc
      obtain ⟨rfl, rfl⟩ := hc
      refine ⟨hb (Nat.le_refl _), ?_⟩
      refine h (.ref D0) H2 G2 (rel1.back hw rel2 ext2) (ext1.trans ext2) ⟨D0, rfl, hG2, hB, .lst hx fx, fun j p hp hf hv => ?_⟩
      have hl : ρ1.length = ρ2.length := by
        have e1 := rel1.len
        have e2 := rel2.len
        rw [wipe_length] at e2
        omega
      by_cases hj : j ∈ vs
      · rw [backR_in hl hj] at hp
        rcases wipeOk_at hw hj with z | ⟨d', z⟩
        · rw [hp] at z; cases z
        · rw [hp] at z; cases z
          cases hf
      · rw [backR_out hj] at hp
        exact hn j p hp hf (by rw [wipe_out' hj]; exact hv)
variable {ws : List Nat} {y : Str} {py spos : Pos}
theorem sx_comp (hc : X.calm = true) (hN : X.N.Nodup) (hi : SI X tg iter ci) (ok : BlkOk X.N X.env.scope scope own) (hvs : ∀ i ∈ ws, i ∈ own.map (·.2))
    (hg : ∀ (s : Shared) (H : Hp) (C : Addr) (cl : List (Str × Addr)) (fp : List Addr), SG (X.blk s H scope (compEnvC scope cl C X.env) fp) tg ws g) (ht : ∀ (s : Shared) (H : Hp) (C : Addr) (cl : List (Str × Addr)) (fp : List Addr), SPt (X.blk s H scope (compEnvC scope cl C X.env) fp) ifs t)
    (he : ∀ (s : Shared) (H : Hp) (C : Addr) (cl : List (Str × Addr)) (fp : List Addr), SX (X.blk s H scope (compEnvC scope cl C X.env) fp) elt e) (hs : ∀ x, foldedSetIterable iter X.env x = pure x := by intro _; rfl) :
    SX X (.ListComp elt [⟨tg, iter, ifs, 0⟩] scope pos) (cComp ci g t e (own.map (·.2))) := fun W tk =>
  PEimp (pe_lc (tt := tT X Wf t) (te := tX X Wf e) (g := tG X ws g) hc hN (hi W tk) ok hg (fun s H C cl fp => ht s H C cl fp Wf takes0) (fun s H C cl fp => he s H C cl fp Wf takes0) hs) (comp_imp hvs)
theorem ss_setComp (i : Nat) (hc : X.calm = true) (hN : X.N.Nodup) (hi : SI X tg iter ci) (ok : BlkOk X.N X.env.scope scope own) (hvs : ∀ i ∈ ws, i ∈ own.map (·.2))
    (hg : ∀ (s : Shared) (H : Hp) (C : Addr) (cl : List (Str × Addr)) (fp : List Addr), SG (X.blk s H scope (compEnvC scope cl C X.env) fp) tg ws g) (ht : ∀ (s : Shared) (H : Hp) (C : Addr) (cl : List (Str × Addr)) (fp : List Addr), SPt (X.blk s H scope (compEnvC scope cl C X.env) fp) ifs t)
    (he : ∀ (s : Shared) (H : Hp) (C : Addr) (cl : List (Str × Addr)) (fp : List Addr), SX (X.blk s H scope (compEnvC scope cl C X.env) fp) elt e)
    (hsw : swapsWith (.ListComp elt [⟨tg, iter, ifs, 0⟩] scope pos) (some (.Name y py)) spos.line X.env = pure true := by exact sw_true rfl rfl rfl (by decide +kernel)) (hy : X.N[i]? = some y := by rfl) (hyl : X.env.scope.names.lookup y = some .local := by rfl) (hs : ∀ x, foldedSetIterable iter X.env x = pure x := by intro _; rfl) :
    SS X (.Assign [.Name y py] (.ListComp elt [⟨tg, iter, ifs, 0⟩] scope pos) spos) (cSet i (cComp ci g t e (own.map (·.2)))) := fun W tk _ =>
  PSimp (ps_setLc (tt := tT X Wf t) (te := tX X Wf e) (g := tG X ws g) hc hN hy hyl hsw (hi W tk) ok hg (fun s H C cl fp => ht s H C cl fp Wf takes0) (fun s H C cl fp => he s H C cl fp Wf takes0) hs) fun D σ H h => comp_imp hvs σ H _ (set_imp h)
end
end TN
namespace TN
open PySem PySem.Spec PyProof.Rows L2

/-! ### keys, dicts -/
theorem keysOf_ints : ∀ {ds : List D} {ks : List Key}, keysOf ds = some ks → ∀ x ∈ ks, ∃ i : Int, x = .inl i
  | [], ks, h, x, hx => by cases h; cases hx
  | d :: ds, ks, h, x, hx => by
    obtain ⟨i, ks', _, e2, rfl⟩ := keysOf_cons h
    rcases List.mem_cons.mp hx with z | z
    · exact ⟨i, z⟩
    · exact keysOf_ints e2 x z
theorem tkOf_ints {d : D} {ks : List Key} (h : tkOf d = some ks) : ∀ x ∈ ks, ∃ i : Int, x = .inl i := by
  cases d <;> first | (cases h; done) | exact keysOf_ints h
def putKD (es : List (D × D)) (k : Key) (d : D) : List (D × D) := if (lookK es k).isSome = true then es.map (fun e => if ckOf e.1 = some k then (e.1, d) else e) else es ++ [(keyD k, d)]
section
variable {K : PySem.W.Frag} {G : Hp}
theorem FzK.repl {k : Key} {v : V} {d : D} (h : Fz K G v d) : ∀ {kvs : List (Key × V)} {es : List (D × D)}, FzK K G kvs es → FzK K G (kvs.map fun kv => if kv.1 = k then (kv.1, v) else kv) (es.map fun e => if ckOf e.1 = some k then (e.1, d) else e)
  | _, _, .nil => .nil
  | _, _, .cons (k := k') (v := w) (d := e) a b => by
    simp only [List.map_cons, ckOf_keyD, Option.some.injEq]
    by_cases hk : k' = k
    · rw [if_pos hk, if_pos hk]; exact .cons h (FzK.repl h b)
    · rw [if_neg hk, if_neg hk]; exact .cons a (FzK.repl h b)
theorem FzK.snoc {k : Key} {v : V} {d : D} (h : Fz K G v d) : ∀ {kvs : List (Key × V)} {es : List (D × D)}, FzK K G kvs es → FzK K G (kvs ++ [(k, v)]) (es ++ [(keyD k, d)])
  | _, _, .nil => .cons h .nil
  | _, _, .cons a b => .cons a (FzK.snoc h b)
theorem FzK.put {k : Key} {v : V} {d : D} {kvs : List (Key × V)} {es : List (D × D)} (b : FzK K G kvs es) (h : Fz K G v d) : FzK K G (putK kvs k v) (putKD es k d) := by
  unfold putK putKD
  have := valV_any k kvs
  rcases FzK.look k b with ⟨z1, z2⟩ | ⟨w, e, z1, z2, _⟩
  · rw [if_neg (by rw [this, z1]; exact Bool.false_ne_true), if_neg (by rw [z2]; exact Bool.false_ne_true)]
    exact FzK.snoc h b
  · rw [if_pos (by rw [this, z1]; rfl), if_pos (by rw [z2]; rfl)]
    exact FzK.repl h b
end

def putT (es : List (D × D)) (k : List Key) (d : D) : List (D × D) := if (lookT es k).isSome = true then es.map (fun e => if tkOf e.1 = some k then (e.1, d) else e) else es ++ [(tkD k, d)]
section
variable {K : PySem.W.Frag} {G : Hp}
theorem FzT.repl {k : List Key} {v : V} {d : D} (h : Fz K G v d) : ∀ {kvs : List RowT} {es : List (D × D)}, FzT K G kvs es → FzT K G (kvs.map fun r => if r.1 = k then (r.1, r.2.1, v) else r) (es.map fun e => if tkOf e.1 = some k then (e.1, d) else e)
  | _, _, .nil => .nil
  | _, _, .cons (k := k') (v := w) (d := e) hi hk a b => by
    simp only [List.map_cons, tkOf_tkD hi, Option.some.injEq]
    by_cases hq : k' = k
    · rw [if_pos hq, if_pos hq]; exact .cons hi hk h (FzT.repl h b)
    · rw [if_neg hq, if_neg hq]; exact .cons hi hk a (FzT.repl h b)
theorem FzT.snoc {k : List Key} {c : Addr} {v : V} {d : D} (hi : ∀ x ∈ k, ∃ i : Int, x = .inl i) (hk : Kt G c (k.map kV)) (h : Fz K G v d) : ∀ {kvs : List RowT} {es : List (D × D)}, FzT K G kvs es → FzT K G (kvs ++ [(k, c, v)]) (es ++ [(tkD k, d)])
  | _, _, .nil => .cons hi hk h .nil
  | _, _, .cons a1 a2 a b => .cons a1 a2 a (FzT.snoc hi hk h b)
theorem FzT.put {k : List Key} {c : Addr} {v : V} {d : D} {kvs : List RowT} {es : List (D × D)} (b : FzT K G kvs es) (hi : ∀ x ∈ k, ∃ i : Int, x = .inl i) (hk : Kt G c (k.map kV)) (h : Fz K G v d) : FzT K G (putR kvs k c v) (putT es k d) := by
  unfold putR putT
  rcases FzT.look k b with ⟨z1, z2⟩ | ⟨w, e, z1, z2, _⟩
  · rw [if_neg (by rw [z1]; exact Bool.false_ne_true), if_neg (by rw [z2]; exact Bool.false_ne_true)]
    exact FzT.snoc hi hk h b
  · rw [if_pos (by rw [z1]; rfl), if_pos (by rw [z2]; rfl)]
    exact FzT.repl h b
end

/-! ### what is looked at is a dict -/
def dPut (es : List (D × D)) (y d : D) : Option (List (D × D)) := match es with
  | (.none, m) :: es => match tkOf y with
    | some k => if es.length < 16777216 then some ((.none, m) :: putT es k d) else none
    | none => none
  | es => match ckOf y with
    | some k => if es.length < 16777216 then some (putKD es k d) else none
    | none => none
/-! ### d[k] as an item -/
def rDGet : R2 := fun x y H Q => ∃ a v, x = .ref a ∧ DG H a y (some v) ∧ Q v H
theorem ix_dict {X : Cx} (hu : X.A.units + 1 < cLine) : IxR X rDGet := by
  intro value slice pins s σ H x y v u Q I rx ry h hs
  obtain ⟨a, w, rfl, g, q⟩ := h
  cases rx
  exact tail_any (ops := [.ref a, u]) (dg_typeIs I g) PySem.F.slot_dict_getitem.lookup (dg_getItem hu I g ry fun w' s3 I3 rw' => ⟨w, H, I3, rw', q⟩) hs
def rDIn (n : Bool) : R2 := fun x y H Q => ∃ a o, y = .ref a ∧ DG H a x o ∧ Q (.bl (if n = true then !o.isSome else o.isSome)) H
theorem op_inDict {X : Cx} (hu : X.A.units + 1 < cLine) : OpR X (compareOp .In) (rDIn false) := by
  intro pins s σ H x y v u Q I rx ry h
  obtain ⟨a, o, rfl, g, q⟩ := h
  cases ry
  exact dg_in hu I g rx fun s3 I3 => ⟨.bl o.isSome, H, I3, rfl, q⟩
theorem op_notInDict {X : Cx} (hu : X.A.units + 1 < cLine) : OpR X (compareOp .NotIn) (rDIn true) := by
  intro pins s σ H x y v u Q I rx ry h
  obtain ⟨a, o, rfl, g, q⟩ := h
  cases ry
  exact dg_notIn hu I g rx fun s3 I3 => ⟨.bl (!o.isSome), H, I3, rfl, q⟩
theorem isSome_of {K : PySem.W.Frag} {G : Hp} {ov : Option V} {o : Option D} (h : (ov = none ∧ o = none) ∨ ∃ w d, ov = some w ∧ o = some d ∧ Fz K G w d) : ov.isSome = o.isSome := by
  rcases h with ⟨rfl, rfl⟩ | ⟨w, d, rfl, rfl, _⟩ <;> rfl
/-! ### {} -/
section
variable {X : Cx} {pos : Pos}
def cNewK : CE := fun ρ => .ok (.tmp (.dict [])) ρ
def cNewT : CE := fun ρ => .ok (.tmp (.dict [(.none, .none)])) ρ
theorem sx_newT : SX X (.Dict [] [] pos) cNewT := fun W tk => PEimp pe_dnewX (by
  rintro σ H Q ⟨L, ρ, G, B, rel, h⟩ p hp
  exact Got.done rel h (.tmp hp (.dT upd_same .nil)))
end
end TN
namespace TN
open PySem PySem.Spec PyProof.Rows L2

/-! ### + - * // % ** -/
section
variable {X : Cx} {pins : List (Addr × Obj)} {σ : L2.St} {H : Hp} {s : Shared} {l b : Addr} {xs ys zs : List V}
theorem lstR (I : Inv X pins σ H s) (hH : Rd H l (.lst xs)) : xs.length ≤ sizeLine ∧ ∃ (its : List Value) (n : Nat), Vals xs its ∧ xs.length = its.length ∧ s.heap.get? l = some { cls := .type "list", data := .seq its.toArray n } := by
  obtain ⟨z, its, n, r, e⟩ := hH.ok I.hok
  exact ⟨z, its, n, r, r.length, e⟩
end
section
variable {X : Cx}
def rCatL : R2 := fun x y H Q => ∃ l b xs zs, x = .ref l ∧ y = .ref b ∧ Rd H l (.lst xs) ∧ Rd H b (.lst zs) ∧ xs.length + zs.length ≤ sizeLine ∧ ∀ p, H p = none → Q (.ref p) (upd H p (.lst (xs ++ zs)))
theorem op_catL : OpR X (binaryOp .Add) rCatL := by
  intro pins s σ H x y v u Q I rx ry h
  obtain ⟨l, b, xs, zs, rfl, rfl, hH, hB, hz, q⟩ := h
  cases rx
  cases ry
  obtain ⟨z, its, n, r, hl, e⟩ := lstR I hH
  obtain ⟨z2, its2, n2, r2, hl2, e2⟩ := lstR I hB
  refine PySem.P.add_list e e2 ?_ (by rw [List.size_toArray, List.size_toArray]; omega)
  have ea : its.toArray ++ its2.toArray = (its ++ its2).toArray := by simp
  rw [ea]
  exact ⟨.ref _, _, I.lnew (t' := s.toks) (r.append r2) (by rw [List.length_append]; omega), rfl, q _ I.fresh⟩
def rRepL : R2 := fun x y H Q => ∃ l k xs, x = .ref l ∧ y = .int k ∧ Rd H l (.lst xs) ∧ -(2 ^ 63) ≤ k ∧ k < 2 ^ 63 ∧ xs.length * k.toNat ≤ sizeLine ∧
  ∀ p, H p = none → Q (.ref p) (upd H p (.lst (List.replicate k.toNat xs).flatten))
theorem op_repL : OpR X (binaryOp .Mult) rRepL := by
  intro pins s σ H x y v u Q I rx ry h
  obtain ⟨l, k, xs, rfl, rfl, hH, h1, h2, hz, q⟩ := h
  cases rx
  obtain ⟨t, rfl⟩ := ry
  obtain ⟨z, its, n, r, hl, e⟩ := lstR I hH
  have hlen : its.toArray.size * k.toNat ≤ sizeLine := by rw [List.size_toArray, ← hl]; exact hz
  have hcap : ¬ its.toArray.size * k.toNat > (2 ^ 63 - 1) / 8 := by
    have : (sizeLine : Nat) ≤ (2 ^ 63 - 1) / 8 := by decide
    omega
  have hfit : ¬ (!Builtin.List.listFitsIndex k) = true := by
    rw [fitsIndex_both h1 h2]
    exact Bool.false_ne_true
  have hlong : ¬ Builtin.List.listTooLong (its.toArray.size * k.toNat) = true := by
    rw [notLongL hlen]
    exact Bool.false_ne_true
  have hnew : List.foldl (fun x1 x2 => x1 ++ x2) #[] (List.replicate (if its.toArray.isEmpty = true then 0 else k.toNat) its.toArray) = (List.replicate k.toNat its).flatten.toArray := by
    have f0 : ∀ m : Nat, List.foldl (fun x1 x2 => x1 ++ x2) #[] (List.replicate m its.toArray) = (List.replicate m its).flatten.toArray := fun m => by
      have := foldl_rep its m []
      rw [List.nil_append] at this
      exact this
    rw [f0]
    cases its with
    | nil => simp
    | cons a r' => rw [if_neg (by simp)]
  refine wpAny_binaryOp_repeat_ref (T := "list") (U := "int") (by decide) ⟨_, e, rfl⟩ (fun s' => typeIs_int s' k t) noFill_list_mul F.fills_int_mul F.slot_int_rmul repeat_list F.slot_int_index.lookup
    (call_meets F.slot_int_rmul (typeIs_int s k t) F.entry_int_rmul (F.args_int_rmul_2 _ _) (int___rmul___int_list k t l its.toArray n)
      ⟨e, rfl, ⟨_, e, rfl⟩, call_meets F.slot_list_mul ⟨_, e, rfl⟩ F.entry_list_mul (F.args_list_mul_2 _ _) (AutoListH.list___mul___list_int_3 l its.toArray n k t hfit hcap hlong) ⟨e, ?_⟩⟩)
  rw [hnew]
  exact ⟨.ref _, _, I.lnew (t' := s.toks) (r.rep k.toNat) (by rw [PyProof.Rows.lm_len_rep_flat, Nat.mul_comm]; exact hz), rfl, q _ I.fresh⟩
def opAdd : D → D → Option Pl
  | .int i, .int j => some (.val (.int (i + j)))
  | .str a, .str b => if a.length + b.length ≤ 16777216 then some (.val (.str (a ++ b))) else none
  | .list a, .list b => if a.length + b.length ≤ 16777216 then some (.tmp (.list (a ++ b))) else none
  | .tuple a, .tuple b => if a.length + b.length ≤ 16777216 then some (.val (.tuple (a ++ b))) else none
  | _, _ => none
def rAddA (K : PySem.W.Frag) : R2 := fun x y H Q => rI0 (fun i j => .int (i + j)) x y H Q ∨ ((∃ i j, x = .str i ∧ y = .str j ∧ i.length + j.length ≤ sizeLine ∧ Q (.str (i ++ j)) H) ∨ (rCatL x y H Q ∨ rCatK K x y H Q))
theorem op_addA : OpR X (binaryOp .Add) (rAddA X.K) := op_add.or (op_add_str.or (op_catL.or op_catK))
theorem add_ok (K : PySem.W.Frag) : OpOk K (rAddA K) opAdd := by
  intro G H x y dx dy p Q s hx hy e q
  cases dx <;> cases dy <;> simp only [opAdd] at e <;> try (cases e; done)
  case int.int i j =>
    cases e
    exact .inl ⟨i, j, hx.int, hy.int, q _ _ (.fz (.int _))⟩
  case str.str i j =>
    split at e
    · rename_i hl
      cases e
      exact .inr (.inl ⟨i, j, hx.str, hy.str, by rw [sizeLine_eq]; exact hl, q _ _ (.fz (.str _))⟩)
    · cases e
  case list.list i j =>
    split at e
    · rename_i hl
      cases e
      obtain ⟨a, xs, rfl, h1, h2⟩ := hx.lst s
      obtain ⟨b, ys, rfl, h3, h4⟩ := hy.lst s
      exact .inr (.inr (.inl ⟨a, b, xs, ys, rfl, rfl, h1, h3, by rw [h2.length, h4.length, sizeLine_eq]; exact hl, fun p hp => q _ _ (.lst hp (h2.append h4))⟩))
    · cases e
  case tuple.tuple i j =>
    split at e
    · rename_i hl
      cases e
      obtain ⟨a, xs, rfl, g1, h1, h2⟩ := hx.tup s
      obtain ⟨b, ys, rfl, g3, h3, h4⟩ := hy.tup s
      refine .inr (.inr (.inr ⟨a, b, xs, ys, rfl, rfl, h1, h3, by rw [h2.length, h4.length, sizeLine_eq]; exact hl, fun e1 => ?_, fun _ e1 => ?_, fun _ _ p o hp hd => q _ _ (.tup hp hd (h2.append h4))⟩))
      · subst e1
        cases h2
        exact q _ _ (.fz (.tup g3 h4))
      · subst e1
        cases h4
        rw [List.append_nil] at q
        exact q _ _ (.fz (.tup g1 h2))
    · cases e
def opSub : D → D → Option Pl
  | .int i, .int j => some (.val (.int (i - j)))
  | _, _ => none
theorem sub_ok (K : PySem.W.Frag) : OpOk K (rI0 fun i j => .int (i - j)) opSub := by
  intro G H x y dx dy p Q s hx hy e q
  cases dx <;> cases dy <;> simp only [opSub] at e <;> try (cases e; done)
  cases e
  exact ⟨_, _, hx.int, hy.int, q _ _ (.fz (.int _))⟩
/-- one of both factors below 2 ^ 64 -/
def mulB (i j : Int) : Bool := (decide (-18446744073709551616 < i) && decide (i < 18446744073709551616)) || (decide (-18446744073709551616 < j) && decide (j < 18446744073709551616))
def opMul : D → D → Option Pl
  | .int i, .int j => if mulB i j = true then some (.val (.int (i * j))) else none
  | .list a, .int k => if a.length * k.toNat ≤ 16777216 ∧ -1000000 ≤ k ∧ k ≤ 100000000 then some (.tmp (.list (List.replicate k.toNat a).flatten)) else none
  | _, _ => none
theorem mulB_ok {i j : Int} (h : mulB i j = true) : CMul i j := by
  simp only [mulB, Bool.or_eq_true, Bool.and_eq_true, decide_eq_true_eq] at h
  unfold CMul
  omega
theorem op_mulA : OpR X (binaryOp .Mult) (fun x y H Q => rI CMul (fun i j => .int (i * j)) x y H Q ∨ rRepL x y H Q) := op_mul.or op_repL
theorem mul_ok (K : PySem.W.Frag) : OpOk K (fun x y H Q => rI CMul (fun i j => .int (i * j)) x y H Q ∨ rRepL x y H Q) opMul := by
  intro G H x y dx dy p Q s hx hy e q
  cases dx <;> cases dy <;> simp only [opMul] at e <;> try (cases e; done)
  case int.int i j =>
    split at e
    · rename_i hl
      cases e
      exact .inl ⟨_, _, hx.int, hy.int, mulB_ok hl, q _ _ (.fz (.int _))⟩
    · cases e
  case list.int a k =>
    split at e
    · rename_i hl
      cases e
      obtain ⟨p, xs, rfl, h1, h2⟩ := hx.lst s
      refine .inr ⟨p, k, xs, rfl, hy.int, h1, by omega, by omega, by rw [h2.length, sizeLine_eq]; exact hl.1, fun p hp => q _ _ (.lst hp (h2.rep _))⟩
    · cases e
def opDiv : D → D → Option Pl
  | .int i, .int j => if 0 < j ∧ j < 10000000000000000000000000000000000000000000000000000000000000000000000 then some (.val (.int (i / j))) else none
  | _, _ => none
theorem div_ok (K : PySem.W.Frag) : OpOk K (rI CDivW fun i j => .int (i / j)) opDiv := by
  intro G H x y dx dy p Q s hx hy e q
  cases dx <;> cases dy <;> simp only [opDiv] at e <;> try (cases e; done)
  split at e
  · rename_i hl
    cases e
    exact ⟨_, _, hx.int, hy.int, wide_div (b := 300) hl.1 (by omega) (by decide) (by decide), q _ _ (.fz (.int _))⟩
  · cases e
def opMod : D → D → Option Pl
  | .int i, .int j => if 0 < j then some (.val (.int (i % j))) else none
  | _, _ => none
theorem mod_ok (K : PySem.W.Frag) : OpOk K (rI (fun _ j => 0 < j) fun i j => .int (i % j)) opMod := by
  intro G H x y dx dy p Q s hx hy e q
  cases dx <;> cases dy <;> simp only [opMod] at e <;> try (cases e; done)
  split at e
  · rename_i hl
    cases e
    exact ⟨_, _, hx.int, hy.int, hl, q _ _ (.fz (.int _))⟩
  · cases e
def opPow : D → D → Option Pl
  | .int i, .int j => if 0 ≤ j ∧ j ≤ 1000 ∧ i.natAbs < 18446744073709551616 then some (.val (.int (i ^ j.toNat))) else none
  | _, _ => none
theorem pow_ok (K : PySem.W.Frag) : OpOk K (rI CPow fun i j => .int (i ^ j.toNat)) opPow := by
  intro G H x y dx dy p Q s hx hy e q
  cases dx <;> cases dy <;> simp only [opPow] at e <;> try (cases e; done)
  split at e
  · rename_i hl
    cases e
    exact ⟨_, _, hx.int, hy.int, ⟨hl.1, by omega, by omega⟩, q _ _ (.fz (.int _))⟩
  · cases e
def opNeg : D → Option Pl
  | .int i => some (.val (.int (-i)))
  | _ => none
theorem neg_ok (K : PySem.W.Frag) : UnOk K (rU fun i => .int (-i)) opNeg := by
  intro G H x dx p Q s hx e q
  cases dx <;> simp only [opNeg] at e <;> try (cases e; done)
  cases e
  exact ⟨_, hx.int, q _ _ (.fz (.int _))⟩

/-! ### comparisons -/
def opLtG (f : Int → Int → Bool) : D → D → Option Pl
  | .int i, .int j => some (.val (.bool (f i j)))
  | _, _ => none
theorem ltG_ok (K : PySem.W.Frag) (f : Int → Int → Bool) : OpOk K (rI0 fun i j => .bl (f i j)) (opLtG f) := by
  intro G H x y dx dy p Q s hx hy e q
  cases dx <;> cases dy <;> simp only [opLtG] at e <;> try (cases e; done)
  cases e
  exact ⟨_, _, hx.int, hy.int, q _ _ (.fz (.bl _))⟩
abbrev opLt := opLtG fun i j => decide (i < j)
abbrev opLe := opLtG fun i j => decide (i ≤ j)
abbrev opGt := opLtG fun i j => decide (j < i)
abbrev opGe := opLtG fun i j => decide (j ≤ i)
/-- what is looked at as data -/
theorem Fz.dp {K : PySem.W.Frag} {G H : Hp} (s : Same G H) : ∀ (d : D) (v : V), Fz K G v d → d.canLay0 = true → Dp K H v d := by
  intro d v h
  refine Fz.rec (motive_1 := fun v d _ => d.canLay0 = true → Dp K H v d) (motive_2 := fun v d _ => PyData.canLayAll0 d = true → DpAll K H v d) (motive_3 := fun _ _ _ => True) (motive_4 := fun _ _ _ => True) (motive_5 := fun _ _ _ => True) ?_ ?_ ?_ ?_ ?_ ?_ ?_ ?_ ?_ ?_ ?_ ?_ ?_ ?_ ?_ ?_ ?_ h
  · exact fun _ => .non
  · exact fun b _ => .bl b
  · exact fun i _ => .int i
  · exact fun x _ => .str x
  · exact fun h _ ih c => .lst (.inl (Same.rd s h)) (ih (by simpa [PyData.canLay0] using c))
  · exact fun h _ ih c => .tup (Same.tp s (sqt h)) (ih (by simpa [PyData.canLay0] using c))
  · exact fun _ _ _ c => absurd c (by simp [PyData.canLay0])
  · exact fun _ _ _ c => absurd c (by simp [PyData.canLay0])
  · exact fun _ _ _ _ _ _ c => absurd c (by simp [exD, PyData.canLay0])
  · exact fun _ => .nil
  · exact fun _ _ a b c => by
      simp only [PyData.canLayAll0, Bool.and_eq_true] at c
      exact .cons (a c.1) (b c.2)
  · trivial
  · exact fun _ _ _ _ => trivial
  · trivial
  · exact fun _ _ _ _ _ _ => trivial
  · trivial
  · exact fun _ _ _ _ => trivial
theorem FzA.dp {K : PySem.W.Frag} {G H : Hp} (s : Same G H) : ∀ {ds : List D} {vs : List V}, FzA K G vs ds → PyData.canLayAll0 ds = true → DpAll K H vs ds
  | [], _, .nil, _ => .nil
  | d :: ds, _, .cons a b, c => by
    simp only [PyData.canLayAll0, Bool.and_eq_true] at c
    exact .cons (Fz.dp s _ _ a c.1) (FzA.dp s b c.2)
theorem Vw.dp {K : PySem.W.Frag} {G H : Hp} {v : V} {d : D} (s : Same G H) (h : Vw K G H v d) (c : d.canLay0 = true) : Dp K H v d := by
  rcases h with h | ⟨a, rfl, h⟩
  · exact Fz.dp s _ _ h c
  · cases h with
    | lst e x => exact .lst (.inl (.inl e)) (x.dp s (by simpa [PyData.canLay0] using c))
    | dK e x => exact absurd c (by simp [PyData.canLay0])
    | dT e x => exact absurd c (by simp [PyData.canLay0])
def opEq (x y : D) : Option Pl := if SeqAt.shaped x = true ∧ SeqAt.shaped y = true then some (.val (.bool (PyData.eqv x y))) else none
def opNe (x y : D) : Option Pl := if SeqAt.shaped x = true ∧ SeqAt.shaped y = true then some (.val (.bool (!PyData.eqv x y))) else none
theorem eq_ok (K : PySem.W.Frag) : OpOk K (rEqD K) opEq := by
  intro G H x y dx dy p Q s hx hy e q
  unfold opEq at e
  split at e
  · rename_i h
    cases e
    exact ⟨dx, dy, hx.dp s (SeqAt.canLay_of_shaped h.1), hy.dp s (SeqAt.canLay_of_shaped h.2), h.1, h.2, q _ _ (.fz (.bl _))⟩
  · cases e
theorem ne_ok (K : PySem.W.Frag) : OpOk K (rNeD K) opNe := by
  intro G H x y dx dy p Q s hx hy e q
  unfold opNe at e
  split at e
  · rename_i h
    cases e
    exact ⟨dx, dy, hx.dp s (SeqAt.canLay_of_shaped h.1), hy.dp s (SeqAt.canLay_of_shaped h.2), h.1, h.2, q _ _ (.fz (.bl _))⟩
  · cases e
/-- is None -/
def isNonD : D → Bool
  | .none => true
  | _ => false
def opIsN (x y : D) : Option Pl := match y with
  | .none => some (.val (.bool (isNonD x)))
  | _ => none
def opNotN (x y : D) : Option Pl := match y with
  | .none => some (.val (.bool (!isNonD x)))
  | _ => none
/-! ### items, slices -/
def opIx : D → D → Option Pl
  | .list a, .int i => (atI a i).map .val
  | .tuple a, .int i => (atI a i).map .val
  | .str z, .int i => if z.length ≤ 16777216 then (atI z.cps.toList i).map (fun c => .val (.str ⟨#[c]⟩)) else none
  | .dict es, y => match dGet es y with
    | some (some d) => some (.val d)
    | _ => none
  | _, _ => none
theorem FzA.atI {K : PySem.W.Frag} {G : Hp} {vs : List V} {ds : List D} {i : Int} {d : D} (h : FzA K G vs ds) (e : L2.atI ds i = some d) : ∃ v, L2.atI vs i = some v ∧ Fz K G v d := by
  unfold L2.atI at e ⊢
  rw [h.length]
  cases q : ixN ds.length i with
  | none => rw [q] at e; cases e
  | some j =>
    rw [q] at e
    exact h.get e
def rIxA (K : PySem.W.Frag) : R2 := fun x y H Q => rIx K x y H Q ∨ rDGet x y H Q
theorem ix_any (hu : X.A.units + 65 < cLine) : IxR X (rIxA X.K) := ix_seq.or (ix_dict (by omega))
theorem ix_ok (K : PySem.W.Frag) : OpOk K (rIxA K) opIx := by
  intro G H x y dx dy p Q s hx hy e q
  cases dx
  case dict es =>
    have e : (match dGet es dy with
      | some (some d) => some (Pl.val d)
      | _ => none) = some p := by cases dy <;> exact e
    split at e
    · rename_i d hd
      cases e
      obtain ⟨a, ov, rfl, g, h⟩ := hx.get s hy hd
      rcases h with ⟨_, z⟩ | ⟨w, d', rfl, z, f⟩
      · cases z
      · cases z
        exact .inr ⟨a, w, rfl, g, q _ _ (.fz f)⟩
    · cases e
  all_goals (cases dy <;> simp only [opIx] at e <;> try (cases e; done))
  case list.int a i =>
    cases e1 : atI a i with
    | none => rw [e1] at e; cases e
    | some d =>
      rw [e1] at e; cases e
      obtain ⟨p, xs, rfl, h1, h2⟩ := hx.lst s
      obtain ⟨v, h3, h4⟩ := h2.atI e1
      exact .inl (.inl ⟨p, xs, i, v, rfl, hy.int, .inl h1, h3, q _ _ (.fz h4)⟩)
  case tuple.int a i =>
    cases e1 : atI a i with
    | none => rw [e1] at e; cases e
    | some d =>
      rw [e1] at e; cases e
      obtain ⟨p, xs, rfl, _, h1, h2⟩ := hx.tup s
      obtain ⟨v, h3, h4⟩ := h2.atI e1
      exact .inl (.inr (.inl ⟨p, xs, i, v, rfl, hy.int, h1, h3, q _ _ (.fz h4)⟩))
  case str.int z i =>
    split at e
    · rename_i hl
      cases e1 : atI z.cps.toList i with
      | none => rw [e1] at e; cases e
      | some c =>
        rw [e1] at e; cases e
        exact .inl (.inr (.inr ⟨z, i, c, hx.str, hy.int, by rw [sizeLine_eq]; exact hl, e1, q _ _ (.fz (.str _))⟩))
    · cases e
theorem sx_item {a b : Expr} {ca cb : CE} {pos : Pos} (hu : X.A.units + 65 < cLine) (ha : SX X a ca) (hb : SX X b cb) (hs : PlainIx b := by exact fun _ _ => rfl) : SX X (.Subscript a b pos) (cBin opIx ca cb) := sx_ix (ix_any hu) (ix_ok X.K) ha hb hs
/-- a part of a slice -/
abbrev CO := Rho → R (Option Int)
abbrev GotO (X : Cx) (L : L2.St) (W : WX) (σ : L2.St) (G B : Hp) (r : R (Option Int)) (Q : Option Int → Hp → Prop) : Prop := Got X L W σ G B (fun b _ _ _ b' => b' = b) r Q
def tO (X : Cx) (W : WX) (c : CO) : TO := fun σ H Q => ∃ (L : L2.St) (ρ : Rho) (G B : Hp), Rel X.K L B σ ρ G H ∧ GotO X L W σ G B (c ρ) Q
def SO (X : Cx) (e : Option Expr) (c : CO) : Prop := ∀ W : WX, Takes X W → PO X e (tO X W c)
theorem POimp {e : Option Expr} {t t' : TO} (h : PO X e t) (w : ∀ σ H Q, t' σ H Q → t σ H Q) : PO X e t' := ⟨fun pins s σ H Q I q => h.run pins s σ H Q I (w _ _ _ q)⟩
def cNoPart : CO := fun ρ => .ok none ρ
def cPart (c : CE) : CO := fun ρ => (c ρ).bind fun p ρ1 => match look p ρ1 with
  | some (.int i) => .ok (some i) ρ1
  | _ => .bad
theorem so_none : SO X none cNoPart := fun W tk => POimp po_none (by
  rintro σ H Q ⟨L, ρ, G, B, rel, h⟩
  exact h none H G rel .refl rfl)
theorem so_some {e : Expr} {c : CE} (h : SX X e c) : SO X (some e) (cPart c) := fun W tk => POimp (po_some (h W tk)) (by
  rintro σ H Q ⟨L, ρ, G, B, rel, h⟩
  refine ⟨L, ρ, G, B, rel, (Got.bind h).mono ?_⟩
  rintro x H1 ⟨p, ρ1, G1, _, rel1, _, fx1, h1⟩
  split at h1
  · rename_i i e1
    exact ⟨i, (fx1.look rel1 e1).int, h1 (some i) H1 G1 rel1 .refl rfl⟩
  · exact h1.elim)
theorem Got.bindO {γ δ : Type} {L : L2.St} {W : WX} {σ : L2.St} {G B : Hp} {P : γ → Rho → Hp → Hp → δ → Prop} {r : R (Option Int)} {k : Option Int → Rho → R γ} {Q : δ → Hp → Prop} (h : Got X L W σ G B P (r.bind k) Q) :
    GotO X L W σ G B r (fun b H1 => ∃ (ρ1 : Rho) (G1 : Hp), r = .ok b ρ1 ∧ Rel X.K L B σ ρ1 G1 H1 ∧ Ext B G G1 ∧ Got X L W σ G1 B P (k b ρ1) fun d H2 => Q d H2) := by
  cases r with
  | ok p ρ1 =>
    intro v H' G' rel ext ok
    subst ok
    exact ⟨ρ1, G', rfl, rel, ext, Got.shift ext h⟩
  | exc x ρ' => exact h
  | bad => exact h
def cutL {α : Type} (xs : List α) (lo hi : Option Int) : List α := (xs.drop (HT.sIx xs.length 0 lo)).take (HT.sIx xs.length xs.length hi - HT.sIx xs.length 0 lo)
def opSl (x : D) (lo hi : Option Int) : Option Pl := match x with
  | .list a => some (.tmp (.list (cutL a lo hi)))
  | .tuple a => some (.val (.tuple (cutL a lo hi)))
  | _ => none
def cSl (a : CE) (lo hi : CO) : CE := fun ρ => (a ρ).bind fun p ρ1 => (lo ρ1).bind fun l ρ2 => (hi ρ2).bind fun u ρ3 => match look p ρ3 with
  | some x => .ofOpt (opSl x l u) ρ3
  | none => .bad
def rSlX (K : PySem.W.Frag) : V → Option Int → Option Int → Hp → VK → Prop := fun x lo hi H Q => rSlL K x lo hi H Q ∨ rSlK K x lo hi H Q
theorem sl_any : SlR X (rSlX X.K) := sl_list.or sl_tupK
theorem FzA.cut {K : PySem.W.Frag} {G : Hp} {vs : List V} {ds : List D} (h : FzA K G vs ds) (lo hi : Option Int) : FzA K G (cutV vs lo hi) (cutL ds lo hi) := by
  unfold cutV cutL
  rw [h.length]
  exact (h.drop _).take _
theorem cut_whole {xs : List D} {lo hi : Option Int} (h1 : HT.sIx xs.length 0 lo = 0) (h2 : HT.sIx xs.length xs.length hi = xs.length) : cutL xs lo hi = xs := by
  unfold cutL
  rw [h1, h2]; simp
theorem sx_slice {e : Expr} {lo hi : Option Expr} {c : CE} {cl cu : CO} {pos p2 : Pos} (he : SX X e c) (hl : SO X lo cl) (hu : SO X hi cu) : SX X (.Subscript e (.Slice lo hi none p2) pos) (cSl c cl cu) := fun W tk =>
  PEimp (pe_slice sl_any (he W tk) (hl W tk) (hu W tk)) (by
  rintro σ H Q ⟨L, ρ, G, B, rel, h⟩
  refine ⟨L, ρ, G, B, rel, (Got.bind h).mono ?_⟩
  rintro x H1 ⟨p, ρ1, G1, _, rel1, _, fx1, h1⟩
  refine ⟨L, ρ1, G1, B, rel1, (Got.bindO h1).mono ?_⟩
  rintro l H2 ⟨ρ2, G2, _, rel2, x2, h2⟩
  refine ⟨L, ρ2, G2, B, rel2, (Got.bindO h2).mono ?_⟩
  rintro u H3 ⟨ρ3, G3, _, rel3, x3, h3⟩
  cases e1 : look p ρ3 with
  | none => simp only [e1] at h3; exact h3.elim
  | some d =>
    simp only [e1] at h3
    have vw := ((fx1.mono x2.same).mono x3.same).look rel3 e1
    cases d with
    | list a =>
      obtain ⟨q, xs, rfl, g1, g2⟩ := vw.lst rel3.sub
      exact .inl ⟨q, xs, rfl, .inl g1, fun p hp => Got.done rel3 h3 (.lst hp (g2.cut l u))⟩
    | tuple a =>
      obtain ⟨q, xs, rfl, g0, g1, g2⟩ := vw.tup rel3.sub
      refine .inr ⟨q, xs, rfl, g1, fun hw => ?_, fun _ p o hp hd => Got.done rel3 h3 (.tup hp hd (g2.cut l u))⟩
      refine Got.done rel3 h3 ?_
      rw [g2.length] at hw
      rw [cut_whole hw.1 hw.2]
      exact .fz (.tup g0 g2)
    | _ => exact h3.elim)

end
end TN
namespace PySem.W
open PySem PySem.Spec PySem.Calls PyProof.Rows
section
variable {prog : Program} {w : World} {A : Around} {E : Value → Shared → Prop} {s : Shared} {K : Frag} {x D : Addr} {ox : Obj}
theorem findObj_dataX {C : Addr} {od : Option Obj} {name : Str} {a g : Value} (hc : (clsIn K C).isSome = true) (ha : findIn K (.ref C) name = some (some a)) (hg : specialIn K a "__get__" = some (some g)) (ht : takesIn K a = some true) : findObj K C od name = some (.bind g a) := by
  obtain ⟨cd, hc⟩ := Option.isSome_iff_exists.mp hc
  unfold findObj
  rw [hc, Option.bind_some, ha, Option.bind_some]
  simp [hg, ht]
theorem kin_classX {od : Option Obj} {Q : Option Value → Shared → Prop} (hga : findIn K (.ref D) "__getattribute__" = some (some (.builtin "BaseException.__getattribute__"))) (hgt : findIn K (.ref D) "__getattr__" = some none) (hsub : subIn K (.ref D) (.type "BaseException") = some true)
    (hdct : hasDictIn K D = true) (ha : findIn K (.ref D) "__class__" = some (some (.builtin "object.__class__")))
    (hn : specialIn K (.builtin "object.__class__") "__get__" = some (some (.builtin "getset_descriptor.__get__"))) (htk : takesIn K (.builtin "object.__class__") = some true) (hm : mroIn K D (.type "object") = some true)
    (X : K.In s.heap) (I : InstAt s.heap x ox D od) (h : Q (some (.ref D)) { s with toks := s.toks + 1 }) : wpAny (model prog w) A (getAttr? (.ref x) "__class__") Q E s := by
  have hf : findObj K D od "__class__" = some (.bind (.builtin "getset_descriptor.__get__") (.builtin "object.__class__")) := findObj_dataX (by obtain ⟨cd, hc, _⟩ := any_some hdct; rw [hc]; rfl) ha hn htk
  obtain ⟨hp, g, d, t, os⟩ := s
  have L0 := I.type (M := model prog w)
  have L1 := looks_findIn (M := model prog w) X hga
  have L2 := looks_findIn (M := model prog w) X hgt
  have L3 := looks_find (M := model prog w) X I hf
  have sub : Looks (model prog w) hp (isInstance (.ref x) (.type "BaseException")) true := L0.andThen (looks_subIn X hsub)
  have hx0 : (false && onTheHeap (Value.builtin "BaseException.__getattribute__")) = false := rfl
  have hx2 : (Value.builtin "BaseException.__getattribute__" == Value.builtin "object.__getattribute__") = false := by decide +kernel
  have hx1 : (onTheHeap (Value.ref D) && Value.builtin "BaseException.__getattribute__" == Value.builtin "object.__getattribute__") = false := by rw [hx2]; rfl
  unfold getAttr? getAttrBy? getAttrBy
  refine wpAny_bind (wpAny_mkText (wpAny_bind (wpAny_attempt (wpAny_holding (wpAny_bind (L0.at (wpAny_bind (L1.at ?_))))))))
  show wpAny _ _ (if (onTheHeap (Value.ref D) && Value.builtin "BaseException.__getattribute__" == Value.builtin "object.__getattribute__") = true then _ else _) _ _ _
  rw [hx1, if_neg Bool.false_ne_true]
  unfold getAttrByItsOwn hookBefore
  refine wpAny_bind ?_
  rw [if_pos (show onTheHeap (Value.ref D) = true from rfl)]
  refine L2.at ?_
  refine wpAny_bind (wpAny_attempt (wpAny_holding ?_))
  unfold callGetattribute
  rw [hx0, if_neg Bool.false_ne_true]
  unfold boundAndCalled
  rw [PySem.F.excAttr_ValueError.ga.bind (.ref x)]
  refine wpAny_bind (wpAny_pure ?_)
  show wpAny _ _ (call (.builtin "BaseException.__getattribute__") [.ref x, .str "__class__" t]) _ _ _
  refine wpAny_call (codeAny_call_builtin PySem.F.excAttr_ValueError.ga.plain PySem.F.entry_bexc_ga ?_)
  refine @check_slot (model prog w) _ _ ⟨hp, g, d, t + 1, os⟩ "BaseException.__getattribute__" "BaseException" "__getattribute__" (.ref x) [.str "__class__" t] [] _ (by decide +kernel) (by decide +kernel) sub (PySem.F.args_bexc_ga (.ref x) (.str "__class__" t)) ?_
  unfold Builtin.«object.__getattribute__»
  refine wpAny_bind (wpAny_of_eq (a := ((Value.ref x : Value), [Value.str "__class__" t])) (by first | rfl | (simp only [slotArgs]; rfl)) ?_)
  refine wpAny_bind (wpAny_pure (wpAny_bind (L0.at (wpAny_bind (L3.at ?_)))))
  show wpAny _ _ (holding [Value.builtin "object.__class__"] (call (.builtin "getset_descriptor.__get__") [.builtin "object.__class__", .ref x, .ref D]) >>= ret) _ _ _
  refine wpAny_bind (wpAny_holding (wpAny_call (class_get (s := ⟨hp, g, d, t + 1, os⟩) (ox := ox) (od := od) X I hm ?_)))
  refine wpAny_pure ?_
  show wpAny _ _ (handedOut (.ref D)) _ _ _
  rw [handedOut_of (v := .ref D) rfl]
  first
    | exact wpAny_pure (wpAny_pure h)
    | exact wpAny_pure h
    | exact wpAny_pure (wpAny_bind (wpAny_pure (wpAny_pure h)))
theorem kitx_X {od : Option Obj} (hga : findIn K (.ref D) "__getattribute__" = some (some (.builtin "BaseException.__getattribute__"))) (hgt : findIn K (.ref D) "__getattr__" = some none) (hsub : subIn K (.ref D) (.type "BaseException") = some true) (hdct : hasDictIn K D = true) (ha : findIn K (.ref D) "__class__" = some (some (.builtin "object.__class__")))
    (hn : specialIn K (.builtin "object.__class__") "__get__" = some (some (.builtin "getset_descriptor.__get__"))) (htk : takesIn K (.builtin "object.__class__") = some true) (hm : mroIn K D (.type "object") = some true) :
    KitX K (.ref x) (.ref D) (fun h => InstAt h x ox D od) where
  ty := fun _ _ _ I => I.type
  it := fun _ _ X _ => by
    obtain ⟨cdD, hcD, _⟩ := any_some hdct
    unfold clsIn at hcD
    split at hcD
    · rename_i c' d' cd' sl' ho
      intro A' Q' E' s' k q
      unfold isType loadHead
      exact wpAny_bind (wpAny_loadPart (k _ _ (X _ _ ho)) (wpAny_pure q))
    · cases hcD
  ne := fun h tp dd its n sl X htp => by
    obtain ⟨cdD, hcD, _⟩ := any_some hdct
    refine Bool.eq_false_iff.mpr fun q => ?_
    have e : D = tp := Value.ref.inj (beq_iff_eq.mp q)
    subst e
    unfold clsIn at hcD
    split at hcD
    · rename_i c' d' cd' sl' ho
      have z := (X _ _ ho).symm.trans htp
      cases z
    · cases hcD
  ca := fun X I k => kin_classX hga hgt hsub hdct ha hn htk hm X I k
end
end PySem.W
namespace TN
open PySem PySem.Spec PyProof.Rows L2
section
variable {X : Cx}
/-! ### in, not in -/
def seqOf : D → Option (List D)
  | .list ds => some ds
  | .tuple ds => some ds
  | _ => none
def opIn (x y : D) : Option Pl := match y with
  | .dict es => (dGet es x).map fun o => .val (.bool o.isSome)
  | y => match seqOf y with
    | some ds => if SeqAt.shaped x = true ∧ SeqAt.shaped y = true then some (.val (.bool (ds.any fun z => PyData.eqv z x))) else none
    | none => none
def opNotIn (x y : D) : Option Pl := match y with
  | .dict es => (dGet es x).map fun o => .val (.bool (!o.isSome))
  | y => match seqOf y with
    | some ds => if SeqAt.shaped x = true ∧ SeqAt.shaped y = true then some (.val (.bool (!(ds.any fun z => PyData.eqv z x)))) else none
    | none => none
def rInB (K : PySem.W.Frag) (n : Bool) : R2 := fun x y H Q => ∃ (d e : D) (ds : List D), Dp K H x d ∧ Dp K H y e ∧ seqOf e = some ds ∧ SeqAt.shaped d = true ∧ SeqAt.shaped e = true ∧ Q (.bl (if n = true then !(ds.any fun z => PyData.eqv z d) else ds.any fun z => PyData.eqv z d)) H
def rInA (K : PySem.W.Frag) (n : Bool) : R2 := fun x y H Q => rInB K n x y H Q ∨ rDIn n x y H Q
theorem op_inB (hu : X.A.units + 65 < cLine) : OpR X (compareOp .In) (rInB X.K false) := by
  intro pins s σ H x y v u Q I rx ry h
  obtain ⟨d, e, ds, hd, he, hs, sd, se, q⟩ := h
  obtain ⟨as, r1⟩ := Dp.reads I d x v hd rx
  obtain ⟨bs, r2⟩ := Dp.reads I e y u he ry
  cases e <;> simp only [seqOf] at hs <;> try (cases hs; done)
  · cases hs
    exact SeqAt.in_list_reads r2 r1 (SeqAt.canLay_of_shaped se) (SeqAt.canLay_of_shaped sd) (PyProof.Rows.room_in_shaped sd hu) ⟨.bl _, H, I, rfl, q⟩
  · cases hs
    exact SeqAt.in_tuple_reads r2 r1 (SeqAt.canLay_of_shaped se) (SeqAt.canLay_of_shaped sd) (PyProof.Rows.room_in_shaped sd hu) ⟨.bl _, H, I, rfl, q⟩
theorem op_notInB (hu : X.A.units + 65 < cLine) : OpR X (compareOp .NotIn) (rInB X.K true) := by
  intro pins s σ H x y v u Q I rx ry h
  obtain ⟨d, e, ds, hd, he, hs, sd, se, q⟩ := h
  obtain ⟨as, r1⟩ := Dp.reads I d x v hd rx
  obtain ⟨bs, r2⟩ := Dp.reads I e y u he ry
  cases e <;> simp only [seqOf] at hs <;> try (cases hs; done)
  · cases hs
    exact SeqAt.notIn_list_reads r2 r1 (SeqAt.canLay_of_shaped se) (SeqAt.canLay_of_shaped sd) (PyProof.Rows.room_in_shaped sd hu) ⟨.bl _, H, I, rfl, q⟩
  · cases hs
    exact SeqAt.notIn_tuple_reads r2 r1 (SeqAt.canLay_of_shaped se) (SeqAt.canLay_of_shaped sd) (PyProof.Rows.room_in_shaped sd hu) ⟨.bl _, H, I, rfl, q⟩
theorem op_inA (hu : X.A.units + 65 < cLine) : OpR X (compareOp .In) (rInA X.K false) := (op_inB hu).or (op_inDict (by omega))
theorem op_notInA (hu : X.A.units + 65 < cLine) : OpR X (compareOp .NotIn) (rInA X.K true) := (op_notInB hu).or (op_notInDict (by omega))
theorem in_ok (K : PySem.W.Frag) : OpOk K (rInA K false) opIn := by
  intro G H x y dx dy p Q s hx hy e q
  unfold opIn at e
  split at e
  · rename_i es
    cases hd : dGet es dx with
    | none => rw [hd] at e; cases e
    | some o =>
      rw [hd] at e; cases e
      obtain ⟨a, ov, rfl, g, h⟩ := hy.get s hx hd
      exact .inr ⟨a, ov, rfl, g, by rw [if_neg Bool.false_ne_true, isSome_of h]; exact q _ _ (.fz (.bl _))⟩
  · cases hs : seqOf dy with
    | none => rw [hs] at e; cases e
    | some ds =>
      rw [hs] at e
      simp only at e
      split at e
      · rename_i h
        cases e
        exact .inl ⟨dx, dy, ds, hx.dp s (SeqAt.canLay_of_shaped h.1), hy.dp s (SeqAt.canLay_of_shaped h.2), hs, h.1, h.2, q _ _ (.fz (.bl _))⟩
      · cases e
theorem notIn_ok (K : PySem.W.Frag) : OpOk K (rInA K true) opNotIn := by
  intro G H x y dx dy p Q s hx hy e q
  unfold opNotIn at e
  split at e
  · rename_i es
    cases hd : dGet es dx with
    | none => rw [hd] at e; cases e
    | some o =>
      rw [hd] at e; cases e
      obtain ⟨a, ov, rfl, g, h⟩ := hy.get s hx hd
      exact .inr ⟨a, ov, rfl, g, by rw [if_pos rfl, isSome_of h]; exact q _ _ (.fz (.bl _))⟩
  · cases hs : seqOf dy with
    | none => rw [hs] at e; cases e
    | some ds =>
      rw [hs] at e
      simp only at e
      split at e
      · rename_i h
        cases e
        exact .inl ⟨dx, dy, ds, hx.dp s (SeqAt.canLay_of_shaped h.1), hy.dp s (SeqAt.canLay_of_shaped h.2), hs, h.1, h.2, q _ _ (.fz (.bl _))⟩
      · cases e
theorem u65 {k : Nat} (hr : Room k X.A) : X.A.units + 65 < cLine := by
  have := hr.un; omega

/-! ### chains: a op b op c -/
def cChain (f g : D → D → Option Pl) (a b c : CE) : CE := fun ρ => (a ρ).bind fun p ρ1 => (b ρ1).bind fun q ρ2 => match look p ρ2, look q ρ2 with
  | some x, some y => match f x y with
    | some (.val (.bool true)) => (c ρ2).bind fun r ρ3 => match look q ρ3, look r ρ3 with
      | some y, some z => .ofOpt (g y z) ρ3
      | _, _ => .bad
    | some (.val (.bool false)) => .ok (.val (.bool false)) ρ2
    | _ => .bad
  | _, _ => .bad
theorem chain_imp {W : WX} {r r' : R2} {f g : D → D → Option Pl} {ca cb cc : CE} (hr : OpOk X.K r f) (hr' : OpOk X.K r' g) : ∀ (σ : L2.St) (H : Hp) (Q : VK), tX X W (cChain f g ca cb cc) σ H Q → tChain r r' (tX X W ca) (tX X W cb) (tX X W cc) σ H Q := by
  rintro σ H Q ⟨L, ρ, G, B, rel, h⟩
  refine ⟨L, ρ, G, B, rel, (Got.bind h).mono ?_⟩
  rintro x H1 ⟨p, ρ1, G1, _, rel1, _, fx1, h1⟩
  refine ⟨L, ρ1, G1, B, rel1, (Got.bind h1).mono ?_⟩
  rintro y H2 ⟨q, ρ2, G2, _, rel2, ext2, fx2, h2⟩
  cases e1 : look p ρ2 with
  | none => simp only [e1] at h2; exact h2.elim
  | some dx =>
    cases e2 : look q ρ2 with
    | none => simp only [e1, e2] at h2; exact h2.elim
    | some dy =>
      simp only [e1, e2] at h2
      have ok := hr G2 H2 x y dx dy
      cases e3 : f dx dy with
      | none => simp only [e3] at h2; exact h2.elim
      | some pl =>
        simp only [e3] at h2
        refine ok pl _ rel2.sub ((fx1.mono ext2.same).look rel2 e1) (fx2.look rel2 e2) e3 fun v H' ps => ?_
        split at h2
        · rename_i heq
          cases heq
          cases ps with
          | fz hv =>
            cases hv
            refine ⟨true, rfl, ?_⟩
            rw [if_pos rfl]
            refine ⟨L, ρ2, G2, B, rel2, (Got.bind h2).mono ?_⟩
            rintro z H3 ⟨r3, ρ3, G3, _, rel3, ext3, fx3, h3⟩
            cases e4 : look q ρ3 with
            | none => simp only [e4] at h3; exact h3.elim
            | some dy' =>
              cases e5 : look r3 ρ3 with
              | none => simp only [e4, e5] at h3; exact h3.elim
              | some dz =>
                simp only [e4, e5] at h3
                cases e6 : g dy' dz with
                | none => simp only [e6] at h3; exact h3.elim
                | some pl =>
                  simp only [e6] at h3
                  exact hr' G3 H3 y z dy' dz pl Q rel3.sub ((fx2.mono ext3.same).look rel3 e4) (fx3.look rel3 e5) e6 fun v H' ps => Got.done rel3 h3 ps
        · rename_i heq
          cases heq
          cases ps with
          | fz hv =>
            cases hv
            refine ⟨false, rfl, ?_⟩
            rw [if_neg Bool.false_ne_true]
            exact h2 _ H2 G2 rel2 .refl (.bl false)
        · exact h2.elim
theorem sx_chain {a b c : Expr} {ca cb cc : CE} {pos : Pos} {op op' : CmpOp} {r r' : R2} {f g : D → D → Option Pl} (ho : OpR X (compareOp op) r) (hr : OpOk X.K r f) (ho' : OpR X (compareOp op') r') (hr' : OpOk X.K r' g) (ha : SX X a ca) (hb : SX X b cb) (hc : SX X c cc)
    (hm : lastMarks [op, op'] [b, c] = false := by with_unfolding_all rfl) : SX X (.Compare a [op, op'] [b, c] pos) (cChain f g ca cb cc) := fun W tk => PEimp (pe_chain ho ho' (ha W tk) (hb W tk) (hc W tk) hm) (chain_imp hr hr')
/-! ### isinstance -/
def tyName : D → String
  | .none => "NoneType" | .bool _ => "bool" | .int _ => "int" | .str _ => "str" | .list _ => "list" | .tuple _ => "tuple" | .dict _ => "dict"
def isTy (T : String) (d : D) : Bool := (kitB (tyName d) T).getD false
def opIsi (T : String) (d : D) : Option Pl := if (kitB (tyName d) T).isSome = true ∧ (exTy.contains T || !isX d) = true then some (.val (.bool (isTy T d))) else none
theorem Vw.tyX {K : PySem.W.Frag} {G H : Hp} {v : V} {d : D} (s : Same G H) (hX : isX d = false) (h : Vw K G H v d) : TyX K H v (.type (tyName d)) ∨ ∃ a rs, v = .ref a ∧ H a = some (dtO a rs) ∧ tyName d = "dict" := by
  rcases h with h | ⟨a, rfl, h⟩
  · cases h with
    | non => exact .inl (.base .non)
    | bl b => exact .inl (.base (.bl b))
    | int i => exact .inl (.base (.int i))
    | str x => exact .inl (.base (.str x))
    | lst h _ =>
      rcases Same.rd s h with e | ⟨o, e⟩
      · exact .inl (.base (.lst e))
      · exact .inl (.base (.frz e))
    | tup h _ =>
      rcases Same.tp (K := K) s (sqt h) with (e | ⟨o, e⟩) | ⟨o, its, n, hk, hc, _⟩
      · exact .inl (.base (.tup e))
      · exact .inl (.fTuple e)
      · exact .inl (.kTuple hk hc)
    | dK e _ => exact .inl (.base (.dK (s _ _ e)))
    | dT e _ => exact .inr ⟨_, _, rfl, s _ _ e, rfl⟩
    | ex => cases hX
  · cases h with
    | lst e _ => exact .inl (.base (.lst e))
    | dK e _ => exact .inl (.base (.dK e))
    | dT e _ => exact .inr ⟨_, _, rfl, e, rfl⟩
/-- isinstance(e, c), e a caught exception -/
structure ExcX (K : PySem.W.Frag) (C : Addr) : Prop where
  ga : PySem.W.findIn K (.ref C) "__getattribute__" = some (some (.builtin "BaseException.__getattribute__"))
  gg : PySem.W.findIn K (.ref C) "__getattr__" = some none
  hs : PySem.W.subIn K (.ref C) (.type "BaseException") = some true
  hd : PySem.W.hasDictIn K C = true
  ha : PySem.W.findIn K (.ref C) "__class__" = some (some (.builtin "object.__class__"))
  hn : PySem.W.specialIn K (.builtin "object.__class__") "__get__" = some (some (.builtin "getset_descriptor.__get__"))
  ht : PySem.W.takesIn K (.builtin "object.__class__") = some true
  hm : PySem.W.mroIn K C (.type "object") = some true
theorem excX {K : PySem.W.Frag} {C : Addr} (h : exC K C = true) : ExcX K C := by
  unfold exC at h
  obtain ⟨h1, h⟩ := He.ba h
  obtain ⟨h2, h⟩ := He.ba h
  obtain ⟨h3, h⟩ := He.ba h
  obtain ⟨h4, h⟩ := He.ba h
  obtain ⟨h5, h⟩ := He.ba h
  obtain ⟨h6, h⟩ := He.ba h
  obtain ⟨h7, h8⟩ := He.ba h
  exact ⟨of_decide_eq_true h1, of_decide_eq_true h2, of_decide_eq_true h3, h4, of_decide_eq_true h5, of_decide_eq_true h6, of_decide_eq_true h7, of_decide_eq_true h8⟩
/-- a caught exception in the abstract heap -/
def ExAt (K : PySem.W.Frag) (H : Hp) (a : Addr) (cls : Str) : Prop := ∃ (oe : Obj) (d : Option Addr), H a = some (exHO a oe) ∧ ExO K cls d oe ∧ ∀ dd, d = some dd → ∃ fs, H dd = some (.xd fs)
def rIsX (K : PySem.W.Frag) : List V → Hp → VK → Prop := fun xs H Q => ∃ (a : Addr) (cls : Str) (c : V) (u : Value) (b : Bool), xs = [.ref a, c] ∧ ClsV c u ∧ ExAt K H a cls ∧ PySem.W.kitOne K (.ref (He.ga K cls)) u = some b ∧ Q (.bl b) H
theorem ExAt.inst {P : Program} {w : World} {K : PySem.W.Frag} {H : Hp} {h : Heap} {a : Addr} {cls : Str} (hok : HOk P w H h) (x : ExAt K H a cls) : ∃ (oe : Obj) (od : Option Obj), PySem.W.InstAt h a oe (He.ga K cls) od := by
  obtain ⟨oe, d, h1, ⟨h2, h3, ⟨vs, h4⟩, _, _⟩, h5⟩ := x
  have h6 : ObjOk P w H h a (exHO a oe) := hok a _ h1
  obtain ⟨h7, _, _⟩ := h6
  have h7 : h.get? a = some oe := h7
  cases d with
  | none => exact ⟨oe, none, h7, h2, by unfold PySem.W.notCls; rw [h4] <;> rfl, by rw [h3]; trivial⟩
  | some dd =>
    obtain ⟨fs, h8⟩ := h5 dd rfl
    obtain ⟨mA, hns, _⟩ := (show ObjOk P w H h dd (.xd fs) from hok dd _ h8)
    obtain ⟨od, ho, _⟩ := L2.lookIn_ns hns
    exact ⟨oe, some od, h7, h2, by unfold PySem.W.notCls; rw [h4] <;> rfl, by rw [h3]; exact ho⟩
theorem call_isX {X : Cx} : CallR X (.builtin "isinstance") (rIsX X.K) := by
  intro pins s σ H xs us Q I r h
  obtain ⟨a, cls, c, u, b, rfl, k, x, e, q⟩ := h
  obtain ⟨u1, u2, rfl, r1, r2⟩ := vals2 r
  have e2 := k.eq r2
  subst e2
  cases (show u1 = Value.ref a from r1)
  obtain ⟨oe, od, J⟩ := x.inst I.hok
  obtain ⟨_, _, _, ⟨_, _, _, c1, _⟩, _⟩ := x
  have C := excX c1
  exact PySem.W.kia_one (PySem.W.kitx_X C.ga C.gg C.hs C.hd C.ha C.hn C.ht C.hm) I.kIn J e (fun z => nomatch z) fun tk => ⟨.bl b, H, I.tok tk, rfl, q⟩
theorem Vw.exAt {K : PySem.W.Frag} {G H : Hp} {v : V} {d : D} (s : Same G H) (hX : isX d = true) (h : Vw K G H v d) : ∃ (a : Addr) (cls : Str) (ds : List (Str × D)), v = .ref a ∧ d = exD cls ds ∧ ExAt K H a cls := by
  rcases h with h | ⟨a, rfl, h⟩
  · cases h with
    | non => cases hX
    | bl b => cases hX
    | int i => cases hX
    | str x => cases hX
    | lst h _ => cases hX
    | tup h _ => cases hX
    | dK e x =>
      cases x with
      | nil => cases hX
      | cons a b => rename_i k _ _ _ _; cases k <;> cases hX
    | dT e x => cases hX
    | ex h1 h2 h3 h4 h5 => exact ⟨_, _, _, rfl, rfl, _, _, s _ _ h1, h2, fun dd e => ⟨_, s _ _ (h3 dd e)⟩⟩
  · cases h with
    | lst h _ => cases hX
    | dK e x =>
      cases x with
      | nil => cases hX
      | cons a b => rename_i k _ _ _ _; cases k <;> cases hX
    | dT e x => cases hX
theorem exT_one {K : PySem.W.Frag} {C : Addr} {T : String} (h : exT K C = true) (hT : exTy.contains T = true) : PySem.W.kitOne K (.ref C) (.type T) = some false := by
  unfold exT at h
  exact of_decide_eq_true (List.all_eq_true.mp h T (by simpa using hT))
theorem kitB_dict {T : String} (hT : exTy.contains T = true) : kitB "dict" T = some false := by
  have h : T ∈ exTy := by simpa using hT
  unfold exTy at h
  simp only [List.mem_cons, List.not_mem_nil, or_false] at h
  rcases h with rfl | rfl | rfl | rfl | rfl <;> rfl
theorem sx_isi {x : Expr} {c : CE} {T : String} {TS : Str} {p p2 pos : Pos} (hg : Gl X "isinstance") (hm : X.mg "isinstance" = none) (hg2 : Gl X TS) (hm2 : X.mg TS = none) (hv : bootBuiltins TS = some (.type T)) (ha : SX X x c)
    (hn : TS ≠ "__name__" := by decide) (hd : (TS == ("__debug__" : Str)) = false := by decide)
    (hs : starEach [x, .Name TS p2] X.env = (false, eval x X.env) :: starEach [.Name TS p2] X.env := by rfl) (hpl : (backTo pos (starEach [.Name TS p2] X.env)).any (·.1) = false := by rfl) :
    SX X (.Call (.Name "isinstance" p) [x, .Name TS p2] [] pos) (cUn (opIsi T) c) := fun W tk =>
  PEimp (pe_callB (CallR.or (CallR.or call_isi call_isiD) call_isX) hg hm boot_isinstance (pa_cons (ha W tk) (pa_cons (pe_bltn (v := .ty T) hg2 hm2 hv rfl hn hd) pa_nil) hs) (by decide) (by decide) hs hpl) (by
  rintro σ H Q ⟨L, ρ, G, B, rel, h⟩
  refine ⟨L, ρ, G, B, rel, (Got.bind h).mono ?_⟩
  rintro v H1 ⟨q, ρ1, G1, _, rel1, _, fx1, h1⟩
  cases e1 : look q ρ1 with
  | none => simp only [e1] at h1; exact h1.elim
  | some d =>
    simp only [e1] at h1
    unfold opIsi at h1
    cases hk : kitB (tyName d) T with
    | none => simp only [hk] at h1; exact h1.elim
    | some b =>
      have hb : isTy T d = b := by unfold isTy; rw [hk]; rfl
      rw [hb] at h1
      simp only [hk, Option.isSome_some, true_and] at h1
      by_cases hc : (exTy.contains T || !isX d) = true
      · rw [if_pos hc] at h1
        cases hX : isX d with
        | false =>
          rcases (fx1.look rel1 e1).tyX rel1.sub hX with z | ⟨a, rs, rfl, z, et⟩
          · exact .inl (.inl ⟨v, .ty T, _, _, b, rfl, .ty T, z, kit_ty hk, Got.done rel1 h1 (.fz (.bl b))⟩)
          · exact .inl (.inr ⟨a, rs, .ty T, _, b, rfl, .ty T, z, by rw [et] at hk; exact kit_ty hk, Got.done rel1 h1 (.fz (.bl b))⟩)
        | true =>
          have hT : exTy.contains T = true := by rw [hX] at hc; simpa using hc
          obtain ⟨a, cls, ds, rfl, rfl, x⟩ := (fx1.look rel1 e1).exAt rel1.sub hX
          have hk' : kitB "dict" T = some b := hk
          rw [kitB_dict hT] at hk'
          cases hk'
          have x' := x
          obtain ⟨_, _, _, ⟨_, _, _, _, c2⟩, _⟩ := x
          exact .inr ⟨a, cls, .ty T, _, false, rfl, .ty T, x', exT_one c2 hT, Got.done rel1 h1 (.fz (.bl false))⟩
      · rw [if_neg hc] at h1; exact h1.elim)

/-! ### len, abs, max, min, int, sum, list, tuple, str -/
theorem VwA.two {K : PySem.W.Frag} {G H : Hp} {xs : List V} {d e : D} (h : VwA K G H xs [d, e]) : ∃ v u, xs = [v, u] ∧ Vw K G H v d ∧ Vw K G H u e := by
  cases h with
  | cons a b =>
    obtain ⟨u, rfl, q⟩ := b.one
    exact ⟨_, u, rfl, a, q⟩
def dLen (es : List (D × D)) : Nat := match es with
  | (.none, _) :: es => es.length
  | es => es.length
def fLen : List D → Option Pl
  | [.dict ((.bool true, _) :: _)] => none
  | [.dict es] => some (.val (.int (dLen es : Nat)))
  | [.list a] => some (.val (.int a.length))
  | [.tuple a] => some (.val (.int a.length))
  | [.str z] => if z.length ≤ 16777216 then some (.val (.int z.length)) else none
  | _ => none
def rLenB (K : PySem.W.Frag) : List V → Hp → VK → Prop := fun xs H Q => (∃ p ys, xs = [.ref p] ∧ (SqL K H p ys ∨ SqT K H p ys) ∧ Q (.int ys.length) H) ∨ (∃ z, xs = [.str z] ∧ z.length ≤ sizeLine ∧ Q (.int z.length) H)
def rLenK : List V → Hp → VK → Prop := fun xs H Q => ∃ a kvs, xs = [V.ref a] ∧ H a = some (.dK kvs) ∧ Q (.int kvs.length) H
def rLenA (K : PySem.W.Frag) : List V → Hp → VK → Prop := fun xs H Q => rLenB K xs H Q ∨ (rLenK xs H Q ∨ rLenX xs H Q)
theorem cr_lenA : CallR X (.builtin "len") (rLenA X.K) := (call_len_seq.or call_len_str).or (CallR.or call_lenD call_len_dX)
theorem len_ok (K : PySem.W.Frag) : CallOk K (rLenA K) fLen := by
  intro G H xs ds p Q s hx e q
  unfold fLen at e
  split at e
  · cases e
  · rename_i es hne
    cases e
    obtain ⟨v, rfl, hv⟩ := hx.one
    have hE : isE es = false := isE_no fun x r z => by subst z; exact hne _ _ rfl
    rcases hv.dict s hE with ⟨a, kvs, rfl, e1, f⟩ | ⟨a, kvs, es', rfl, e1, f, rfl⟩
    · refine .inr (.inl ⟨a, kvs, rfl, e1, ?_⟩)
      have : dLen es = kvs.length := by
        unfold dLen
        split
        · exact f.nomark.elim
        · exact f.length.symm
      rw [← this]
      exact q _ _ (.fz (.int _))
    · refine .inr (.inr ⟨a, kvs, rfl, e1, fun r hr => (f.kt r hr).mono s, ?_⟩)
      have : dLen ((.none, .none) :: es') = kvs.length := f.length.symm
      rw [← this]
      exact q _ _ (.fz (.int _))
  · cases e
    obtain ⟨v, rfl, hv⟩ := hx.one
    obtain ⟨a, ys, rfl, h1, h2⟩ := hv.lst s
    exact .inl (.inl ⟨a, ys, rfl, .inl (.inl h1), by rw [h2.length]; exact q _ _ (.fz (.int _))⟩)
  · cases e
    obtain ⟨v, rfl, hv⟩ := hx.one
    obtain ⟨a, ys, rfl, _, h1, h2⟩ := hv.tup s
    exact .inl (.inl ⟨a, ys, rfl, .inr h1, by rw [h2.length]; exact q _ _ (.fz (.int _))⟩)
  · split at e
    · rename_i hl
      cases e
      obtain ⟨v, rfl, hv⟩ := hx.one
      exact .inl (.inr ⟨_, by rw [hv.str], by rw [sizeLine_eq]; exact hl, q _ _ (.fz (.int _))⟩)
    · cases e
  · cases e
def fAbs : List D → Option Pl
  | [.int i] => some (.val (.int (if i < 0 then -i else i)))
  | _ => none
theorem abs_ok (K : PySem.W.Frag) : CallOk K (fun xs H Q => ∃ i, xs = [.int i] ∧ Q (.int (if i < 0 then -i else i)) H) fAbs := by
  intro G H xs ds p Q s hx e q
  unfold fAbs at e
  split at e
  · cases e
    obtain ⟨v, rfl, hv⟩ := hx.one
    exact ⟨_, by rw [hv.int], q _ _ (.fz (.int _))⟩
  · cases e
def fMax2 : List D → Option Pl
  | [.int i, .int j] => some (.val (.int (if j > i then j else i)))
  | _ => none
def fMin2 : List D → Option Pl
  | [.int i, .int j] => some (.val (.int (if j < i then j else i)))
  | _ => none
theorem max2_ok (K : PySem.W.Frag) : CallOk K (fun xs H Q => ∃ i j, xs = [.int i, .int j] ∧ Q (.int (if j > i then j else i)) H) fMax2 := by
  intro G H xs ds p Q s hx e q
  unfold fMax2 at e
  split at e
  · cases e
    obtain ⟨v, u, rfl, hv, hu⟩ := hx.two
    exact ⟨_, _, by rw [hv.int, hu.int], q _ _ (.fz (.int _))⟩
  · cases e
theorem min2_ok (K : PySem.W.Frag) : CallOk K (fun xs H Q => ∃ i j, xs = [.int i, .int j] ∧ Q (.int (if j < i then j else i)) H) fMin2 := by
  intro G H xs ds p Q s hx e q
  unfold fMin2 at e
  split at e
  · cases e
    obtain ⟨v, u, rfl, hv, hu⟩ := hx.two
    exact ⟨_, _, by rw [hv.int, hu.int], q _ _ (.fz (.int _))⟩
  · cases e
/-- all ints -/
def intsOf : List D → Option (List Int)
  | [] => some []
  | .int i :: r => match intsOf r with
    | some ns => some (i :: ns)
    | none => none
  | _ => none
theorem intsOf_eq : ∀ {ds : List D} {ns : List Int}, intsOf ds = some ns → ds = ns.map PyData.int
  | [], _, h => by cases h; rfl
  | d :: ds, ns, h => by
    cases d <;> simp only [intsOf] at h <;> try (cases h; done)
    cases q : intsOf ds with
    | none => rw [q] at h; cases h
    | some ms =>
      rw [q] at h; cases h
      rw [intsOf_eq q]; rfl
theorem intsOf_map : ∀ ns : List Int, intsOf (ns.map PyData.int) = some ns
  | [] => rfl
  | n :: ns => by simp only [List.map_cons, intsOf, intsOf_map ns]
def seqInts (d : D) : Option (List Int) := match seqOf d with
  | some ds => intsOf ds
  | none => none
/-- a list or tuple of ints -/
def rSeqI (K : PySem.W.Frag) (H : Hp) (a : Addr) (ns : List Int) : Prop := SqL K H a (ns.map V.int) ∨ SqT K H a (ns.map V.int)
theorem Vw.ints {K : PySem.W.Frag} {G H : Hp} {v : V} {d : D} {ns : List Int} (s : Same G H) (h : Vw K G H v d) (e : seqInts d = some ns) : ∃ a, v = .ref a ∧ rSeqI K H a ns := by
  unfold seqInts at e
  cases d <;> simp only [seqOf] at e <;> try (cases e; done)
  · obtain ⟨a, xs, rfl, h1, h2⟩ := h.lst s
    rw [intsOf_eq e] at h2
    rw [h2.ints] at h1
    exact ⟨a, rfl, .inl (.inl h1)⟩
  · obtain ⟨a, xs, rfl, _, h1, h2⟩ := h.tup s
    rw [intsOf_eq e] at h2
    rw [h2.ints] at h1
    exact ⟨a, rfl, .inr h1⟩
def fInt : List D → Option Pl
  | [.int i] => some (.val (.int i))
  | [.bool b] => some (.val (.int (if b = true then 1 else 0)))
  | _ => none
theorem int_ok (K : PySem.W.Frag) : CallOk K (fun xs H Q => (∃ i, xs = [.int i] ∧ Q (.int i) H) ∨ ∃ k, xs = [.bl k] ∧ Q (.int (if k then 1 else 0)) H) fInt := by
  intro G H xs ds p Q s hx e q
  unfold fInt at e
  split at e
  · cases e
    obtain ⟨v, rfl, hv⟩ := hx.one
    exact .inl ⟨_, by rw [hv.int], q _ _ (.fz (.int _))⟩
  · cases e
    obtain ⟨v, rfl, hv⟩ := hx.one
    exact .inr ⟨_, by rw [hv.bool], q _ _ (.fz (.int _))⟩
  · cases e
def fList : List D → Option Pl
  | [.list a] => some (.tmp (.list a))
  | [.tuple a] => some (.tmp (.list a))
  | _ => none
def fTuple : List D → Option Pl
  | [.list a] => some (.val (.tuple a))
  | [.tuple a] => some (.val (.tuple a))
  | _ => none
theorem tuple_ok (K : PySem.W.Frag) : CallOk K (rTupK K) fTuple := by
  intro G H xs ds p Q s hx e q
  unfold fTuple at e
  split at e
  · cases e
    obtain ⟨v, rfl, hv⟩ := hx.one
    obtain ⟨a, ys, rfl, h1, h2⟩ := hv.lst s
    exact ⟨a, ys, rfl, .inl ⟨.inl h1, fun l o hl hd => q _ _ (.tup hl hd h2)⟩⟩
  · cases e
    obtain ⟨v, rfl, hv⟩ := hx.one
    obtain ⟨a, ys, rfl, g1, h1, h2⟩ := hv.tup s
    exact ⟨a, ys, rfl, .inr ⟨h1, q _ _ (.fz (.tup g1 h2))⟩⟩
  · cases e
end
end TN
namespace TN
open PySem PySem.Spec PyProof.Rows L2

/-! ### tuples that stand are frozen -/
structure GrowT (G G2 H : Hp) : Prop where
  sub : Same G G2
  into : Same G2 H
  new : ∀ b, G2 b ≠ none → G b ≠ none ∨ ∃ vs, G2 b = some (.tup vs)
theorem GrowT.refl {G H : Hp} (s : Same G H) : GrowT G G H := ⟨Same.refl _, s, fun _ h => .inl h⟩
section
variable {X : Cx} {es : List Expr} {cr : CA} {rc : List V → Hp → VK → Prop} {fc : List D → Option Pl} {x : Str} {p : Pos} {T : String} {e : Expr} {pos : Pos}
end
/-! ### list(d) -/
def dKeys (es : List (D × D)) : List D := match es with
  | (.none, _) :: es => es.map (·.1)
  | es => es.map (·.1)
def fListA (ds : List D) : Option Pl := match ds with
  | [.dict ((.bool true, _) :: _)] => none
  | [.dict es] => some (.tmp (.list (dKeys es)))
  | ds => fList ds
end TN
namespace TN
open PySem PySem.Spec PyProof.Rows L2

/-! ### sum, min, max of ints in a list or tuple -/
section
variable {prog : Program} {w : World} {A : Around} {E : Value → Shared → Prop} {s : Shared} {l : Addr} {its : List Value} {ns : List Int} {Q : Value → Shared → Prop}
theorem sum_tupRaw (hh : A.handled = none) (hl : IsTup s.heap l its.toArray) (hi : IntsAre its ns)
    (h : ∀ h' tk t', (∀ b o, s.heap.get? b = some o → h'.get? b = some o) → Q (.int ns.sum t') { s with heap := h', toks := tk }) : wpAny (model prog w) A (call (.builtin "sum") [.ref l]) Q E s := by
  obtain ⟨xs, e⟩ := hi.allInts.items
  have hn : numsOf (intItems xs).toList = ns := by rw [← e]; exact hi.numsOf
  rw [nums_intItems] at hn
  rw [e] at hl
  have hlt : l < s.heap.objs.size := by obtain ⟨_, e, _⟩ := hl; exact Heap.lt_size e
  refine call_sum_walkG (wpAny_pyIter_tuple hl ?_)
  refine ⟨_, _, _, _, _, _, numAt xs, rfl, Walks.tuple (A := A.in1) hh _ l (Nat.ne_of_lt hlt) (intItems xs), ⟨⟨_, Heap.get?_push_size _ rfl, rfl, rfl⟩, Heap.IsTuple.push hl _⟩, fun b hb => ?_, (fun _ _ => intItems_at), fun h' tk t' hk => ?_⟩
  · show b < (s.heap.push _).objs.size
    rw [Heap.size_push]
    rcases List.mem_cons.mp hb with rfl | hb
    · exact Nat.lt_succ_self _
    · rcases List.mem_cons.mp hb with rfl | hb
      · exact Nat.lt_succ_of_lt hlt
      · cases hb
  · have := h h' tk t' (fun b o eo => hk b o (fun hmem => by
      rcases List.mem_cons.mp hmem with e1 | hmem
      · exact absurd (e1 ▸ Heap.lt_size eo) (Nat.lt_irrefl _)
      · cases hmem) (Heap.get?_push_of_some _ eo))
    rw [show (intItems xs).size = xs.size by simp [intItems], preSum_eq, List.take_of_length_le (by simp), hn]
    exact this
end
section
variable {X : Cx} {k : Nat}
def fSum : List D → Option Pl
  | [d] => match seqInts d with
    | some ns => some (.val (.int ns.sum))
    | none => none
  | _ => none
def rSumA (K : PySem.W.Frag) : List V → Hp → VK → Prop := fun vs H Q => ∃ (a : Addr) (ns : List Int), vs = [V.ref a] ∧ rSeqI K H a ns ∧ Q (.int ns.sum) H
theorem cr_sumA (hc : X.calm = true) : CallR X (.builtin "sum") (rSumA X.K) := by
  intro pins s σ H vs us Q I r h
  obtain ⟨a, ns, rfl, hs, q⟩ := h
  rw [Vals.ref1 r]
  rcases hs with hs | hs
  · obtain ⟨its, rv, hl, _⟩ := I.list hs
    exact sum_raw (I.ok.hd hc) hl.isList rv.ints fun h' tk t' hk => ⟨.int _, H, I.kept hk, ⟨_, rfl⟩, q⟩
  · obtain ⟨its, rv, hl, _⟩ := I.tuple hs
    exact sum_tupRaw (I.ok.hd hc) hl rv.ints fun h' tk t' hk => ⟨.int _, H, I.kept hk, ⟨_, rfl⟩, q⟩
theorem sum_ok (K : PySem.W.Frag) : CallOk K (rSumA K) fSum := by
  intro G H xs ds p Q s hx e q
  unfold fSum at e
  split at e
  · split at e
    · rename_i hn
      cases e
      obtain ⟨v, rfl, hv⟩ := hx.one
      obtain ⟨a, rfl, h1⟩ := hv.ints s hn
      exact ⟨a, _, rfl, h1, q _ _ (.fz (.int _))⟩
    · cases e
  · cases e
/-! ### all -/
def blsOf : List D → Option (List Bool)
  | [] => some []
  | .bool b :: r => match blsOf r with
    | some bs => some (b :: bs)
    | none => none
  | _ => none
theorem blsOf_eq : ∀ {ds : List D} {bs : List Bool}, blsOf ds = some bs → ds = bs.map PyData.bool
  | [], _, h => by cases h; rfl
  | d :: ds, bs, h => by
    cases d <;> simp only [blsOf] at h <;> try (cases h; done)
    cases q : blsOf ds with
    | none => rw [q] at h; cases h
    | some ms =>
      rw [q] at h; cases h
      rw [blsOf_eq q]; rfl
theorem blsOf_map : ∀ bs : List Bool, blsOf (bs.map PyData.bool) = some bs
  | [] => rfl
  | n :: ns => by simp only [List.map_cons, blsOf, blsOf_map ns]
def fAll : List D → Option Pl
  | [.list a] => match blsOf a with
    | some bs => some (.val (.bool (bs.all id)))
    | none => none
  | _ => none
theorem all_ok (K : PySem.W.Frag) : CallOk K (rAll K) fAll := by
  intro G H xs ds p Q s hx e q
  unfold fAll at e
  split at e
  · split at e
    · rename_i bs hn
      cases e
      obtain ⟨v, rfl, hv⟩ := hx.one
      obtain ⟨a, xs, rfl, h1, h2⟩ := hv.lst s
      rw [blsOf_eq hn] at h2
      rw [h2.bls] at h1
      exact ⟨a, _, rfl, .inl h1, q _ _ (.fz (.bl _))⟩
    · cases e
  · cases e
end
end TN
namespace TN
open PySem PySem.Spec PyProof.Rows L2

/-! ### sorted(list) -/
def tup1 : D → Bool
  | .tuple (_ :: _) => true
  | _ => false
def notTup : D → Bool
  | .tuple _ => false
  | .none => false
  | _ => true
def sortOk (ds : List D) : Bool := ds.all (fun d => ds.all fun e => PySem.W.alike d e) && (ds.all tup1 || ds.all notTup) && ds.all (fun d => d.canLay0 && decide (d.depth ≤ 60)) && decide (ds.length ≤ 16777216)
def sortI (ns : List Int) : List Int := ns.mergeSort fun a b => decide (a ≤ b)
def sortDs (ds : List D) : Option (List D) := match intsOf ds with
  | some ns => if ns.length ≤ 16777216 then some ((sortI ns).map .int) else none
  | none => if sortOk ds = true then some (ds.mergeSort dLe) else none
theorem sortI_eq (ns : List Int) : (ns.map PyData.int).mergeSort dLe = (sortI ns).map .int := by
  refine (PySem.W.sort_maps PyData.int fun a _ b _ => ?_).symm
  have := congrFun (congrFun (PySem.W.dataLe_int (β := Int) id) a) b
  exact this.symm
theorem sortOk_ints {ns : List Int} (h : ns.length ≤ 16777216) : sortOk (ns.map .int) = true := by
  simp only [sortOk, Bool.and_eq_true, List.all_map, List.length_map, decide_eq_true_eq, Bool.or_eq_true]
  refine ⟨⟨⟨?_, .inr ?_⟩, ?_⟩, h⟩
  · simp [PySem.W.alike]
  · simp [notTup]
  · simp [PyData.canLay0, PyData.depth]
theorem sortDs_ok {ds es : List D} (h : sortDs ds = some es) : sortOk ds = true ∧ es = ds.mergeSort dLe := by
  unfold sortDs at h
  split at h
  · rename_i ns q
    split at h
    · rename_i hl
      cases h
      rw [intsOf_eq q, sortI_eq]
      exact ⟨sortOk_ints hl, rfl⟩
    · cases h
  · split at h
    · rename_i q
      cases h
      exact ⟨q, rfl⟩
    · cases h
inductive FzZ (K : PySem.W.Frag) (G : Hp) (b : V × D) : Prop
  | mk : Fz K G b.1 b.2 → FzZ K G b
theorem FzA.unzip {K : PySem.W.Frag} {G : Hp} : ∀ {bs : List (V × D)}, (∀ b ∈ bs, Fz K G b.1 b.2) → FzA K G (bs.map Prod.fst) (bs.map Prod.snd)
  | [], _ => .nil
  | b :: bs, h => .cons (h b List.mem_cons_self) (FzA.unzip fun c hc => h c (List.mem_cons_of_mem _ hc))
/-! sorted(a tuple) -/
section
variable {prog : Program} {w : World} {A : Around} {E : Value → Shared → Prop} {s : Shared}
theorem collect_tup {t : Addr} {us : List Value} {Q : List Value → Shared → Prop} (ht : IsTup s.heap t us.toArray) (hz : us.length ≤ sizeLine)
    (q : Q us { s with heap := (s.heap.push (seqObj "list" #[] 0)).update s.heap.objs.size (Obj.mapSeq (· ++ us.toArray)) }) :
    wpAny (model prog w) A (collect (.ref t)) Q E s := by
  obtain ⟨ob, hob, hcl, m, hdt⟩ := id ht
  unfold collect
  refine wpAny_bind (wpAny_runValue (codeAny_builtin entry_proto_collect' ?_))
  show wpAny _ _ (do again (.builtin "list.__iadd__" ⟨[← newList [], .ref t], []⟩)) _ _ s
  refine wpAny_bind (wpAny_newList (wpAny_pure ⟨Code.quiet_builtin _ (by decide +kernel), codeAny_builtin entry_list_iadd' ?_⟩))
  show wpAny _ _ (Builtin.List.listExtendWith (.ref s.heap.objs.size) (.ref t) (.ref s.heap.objs.size)) _ _ { s with heap := s.heap.push (seqObj "list" #[] 0) }
  unfold Builtin.List.listExtendWith
  have hob' : (s.heap.push (seqObj "list" #[] 0)).get? t = some ob := Heap.get?_push_of_some _ hob
  refine wpAny_bind (wpAny_typeOf (T := "tuple") ⟨ob, hob', hcl⟩ ?_)
  have hty : (Value.type "tuple" == Value.type "tuple") = true := by rfl
  rw [if_pos (by rw [hty]; simp)]
  refine wpAny_bind (listItems_at hob' hdt ?_)
  refine wpAny_bind (listItems_at (xs := #[]) (n := 0) (Heap.get?_push_size _ rfl) rfl ?_)
  rw [if_neg (by simp)]
  refine wpAny_bind (listUpdate_at (xs := #[]) (n := 0) (Heap.get?_push_size _ rfl) rfl ?_ (Nat.zero_le _) (by show (#[] ++ us.toArray).size ≤ sizeLine + 1; simp only [Array.size_append, List.size_toArray, List.length_nil]; omega))
  refine wpAny_pure ?_
  show wpAny (model prog w) A (do
      let ob ← load s.heap.objs.size
      match ob.data with
      | .seq zs _ => pure zs.toList
      | _ => unsupported "internal:collect") Q E { s with heap := (s.heap.push (seqObj "list" #[] 0)).update s.heap.objs.size (Obj.mapSeq (· ++ us.toArray)) }
  refine wpAny_bind (wpAny_load (get?_update_seq (Heap.get?_push_size _ rfl) _) ?_)
  show wpAny _ _ (pure ((#[] : Array Value) ++ us.toArray).toList) Q E _
  rw [show ((#[] : Array Value) ++ us.toArray).toList = us by simp]
  exact wpAny_pure q
theorem sorted_tupS {t : Addr} {us : List Value} {Q : Value → Shared → Prop} (ht : IsTup s.heap t us.toArray) (hz : us.length ≤ sizeLine)
    (body : ∀ E' : Value → Shared → Prop, wpAny (model prog w) A.in1.in1 (Builtin.«list.sort» ⟨[.ref (s.heap.objs.size + 1)], []⟩) (fun f s' => f = .done (.ret .none) ∧ Q (.ref (s.heap.objs.size + 1)) s') E' { s with heap := PySem.W.copyHeap s.heap us }) :
    wpAny (model prog w) A (call (.builtin "sorted") [.ref t]) Q E s := by
  refine call_function_entry_kw kind_sorted plain_sorted entry_sorted (args_sorted1 _) ?_
  unfold Builtin.«sorted»
  refine wpAny_bind (m := checkCount "sorted" 1 1 _) (wpAny_pure ?_)
  refine wpAny_bind (collect_tup ht hz ?_)
  refine wpAny_bind (wpAny_newList ?_ hz)
  have hn : ((s.heap.push (seqObj "list" #[] 0)).update s.heap.objs.size (Obj.mapSeq (· ++ us.toArray))).objs.size = s.heap.objs.size + 1 := by
    rw [Heap.size_update, size_push']
  show wpAny _ _ _ _ _ { s with heap := PySem.W.copyHeap s.heap us }
  rw [hn]
  refine wpAny_bind (wpAny_holding (wpAny_call_entry_kw slot_list_sort ⟨_, PySem.W.copyHeap_at s.heap us, rfl⟩ entry_list_sort ?bd (args_list_sort _)))
  case bd =>
    show wpAny (model prog w) A.in1.in1 (Builtin.«list.sort» ⟨[.ref (s.heap.objs.size + 1)], []⟩) _ _ _
    refine wpAny_mono (body _) (fun f s' hf => ?_) fun _ _ e => e
    obtain ⟨rfl, hq⟩ := hf
    exact ⟨_, rfl, wpAny_pure ⟨_, rfl, hq⟩⟩
theorem sorted_tupD {β : Type} {R : Value → β → Prop} {enc : β → PyData} {bs : List β} {t : Addr} {us : List Value} {Q : Value → Shared → Prop} (ht : IsTup s.heap t us.toArray) (e : PySem.W.EachIs R us bs) (er : PySem.W.EachIs (fun v b => ∃ as, Reads s.heap v (enc b) as) us bs) (hal : PySem.W.AllAlike (bs.map enc)) (hk : PySem.W.Sortable (bs.map enc)) (hL : bs.length ≤ sizeLine)
    (hu : ∀ b, b ∈ bs → A.units + 2 + (enc b).depth < cLine) (h : ∀ out, out.length = bs.length → PySem.W.EachIs R out (bs.mergeSort (PySem.W.dataLe false enc)) → Q (.ref (s.heap.objs.size + 1)) { s with heap := sortedAll s.heap us (List.toArray out) }) :
    wpAny (model prog w) A (call (.builtin "sorted") [.ref t]) Q E s := by
  have er' : PySem.W.EachIs (fun v b => ∃ as, Reads (PySem.W.sortingHeap (PySem.W.copyHeap s.heap us) (s.heap.objs.size + 1) us) v (enc b) as) us bs := er.mono fun _ _ ⟨as, r⟩ => ⟨as, PyProof.Rows.Reads.keeps (fun _ _ => PySem.W.sorting_copy_old) r⟩
  have hS := PySem.W.SortsAt.data (prog := prog) (w := w) (A := A.in1.in1) (s := { s with heap := PySem.W.sortingHeap (PySem.W.copyHeap s.heap us) (s.heap.objs.size + 1) us }) (PySem.W.each_map (R := fun v d => ∃ as, Reads (PySem.W.sortingHeap (PySem.W.copyHeap s.heap us) (s.heap.objs.size + 1) us) v d as) enc er') hal hk (PySem.W.bound_map hu)
  refine sorted_tupS ht (by rw [e.length]; exact hL) fun E' => PySem.W.list_sort_vals (s := { s with heap := PySem.W.copyHeap s.heap us }) (PySem.W.copyHeap_at s.heap us) hS (by rw [e.length]; exact hL) ⟨rfl, ?_⟩
  exact h _ (by rw [PySem.W.sortVals_length false rfl]; exact e.length) (PySem.W.sortVals_data false e er' hal)
end
section
variable {X : Cx} {k : Nat} {pins : List (Addr × Obj)} {σ : L2.St} {H : Hp} {s : Shared}
theorem eachR : ∀ {vs : List V} {us : List Value} {ds : List D}, Vals vs us → vs.length = ds.length → PySem.W.EachIs (fun (u : Value) (b : V × D) => RelV b.1 u) us (vs.zip ds)
  | _, _, [], .nil, _ => .nil
  | _, _, d :: ds, .cons r t, h => .cons r (eachR t (by simpa using h))
theorem eachReads (I : Inv X pins σ H s) {vs : List V} {us : List Value} {ds : List D} (r : Vals vs us) (h : DpAll X.K H vs ds) : PySem.W.EachIs (fun (u : Value) (b : V × D) => ∃ as, Reads s.heap u b.2 as) us (vs.zip ds) := by
  induction r generalizing ds with
  | nil => cases h; exact .nil
  | cons rv t ih =>
    cases h with
    | cons h1 h2 => exact .cons (Dp.reads I _ _ _ h1 rv) (ih h2)
theorem valsR : ∀ {us : List Value} {bs : List (V × D)}, PySem.W.EachIs (fun (u : Value) (b : V × D) => RelV b.1 u) us bs → Vals (bs.map Prod.fst) us
  | _, _, .nil => .nil
  | _, _, .cons r t => .cons r (valsR t)
/-- sorted(xs) of alike things -/
def rSortD (K : PySem.W.Frag) : List V → Hp → VK → Prop := fun vs H Q => ∃ (a : Addr) (xs : List V) (ds : List D), vs = [V.ref a] ∧ (SqL K H a xs ∨ SqT K H a xs) ∧ DpAll K H xs ds ∧ sortOk ds = true ∧
  ∀ (bs : List (V × D)) (p : Addr), bs.Perm (xs.zip ds) → bs.map Prod.snd = ds.mergeSort dLe → H p = none → Q (.ref p) (upd H p (.lst (bs.map Prod.fst)))
theorem dpLen {K : PySem.W.Frag} {H : Hp} : ∀ {ds : List D} {xs : List V}, DpAll K H xs ds → xs.length = ds.length
  | [], _, h => by cases h; rfl
  | d :: ds, _, h => by
    cases h with
    | cons _ h2 => simp [dpLen h2]
theorem cr_sortD (hr : Room k X.A) : CallR X (.builtin "sorted") (rSortD X.K) := by
  intro pins s σ H vs us Q I r h
  obtain ⟨a, xs, ds, rfl, hs, hd, ok, q⟩ := h
  have hsq : ∃ its : List Value, Vals xs its ∧ (s.heap.IsList a its.toArray ∨ IsTup s.heap a its.toArray) ∧ xs.length ≤ sizeLine := by
    rcases hs with hs | hs
    · obtain ⟨its, rv, hl, hz⟩ := I.list hs
      exact ⟨its, rv, .inl hl.isList, hz⟩
    · obtain ⟨its, rv, hl, hz⟩ := I.tuple hs
      exact ⟨its, rv, .inr hl, hz⟩
  obtain ⟨its, rv, hl, hz⟩ := hsq
  rw [Vals.ref1 r]
  simp only [sortOk, Bool.and_eq_true, Bool.or_eq_true, decide_eq_true_eq] at ok
  obtain ⟨⟨⟨o1, o2⟩, o3⟩, o4⟩ := ok
  have hlen : xs.length = ds.length := dpLen hd
  have e1 := eachR rv hlen
  have e2 := eachReads I rv hd
  have em : (xs.zip ds).map Prod.snd = ds := by rw [List.map_snd_zip]; omega
  have hal : PySem.W.AllAlike ((xs.zip ds).map Prod.snd) := by
    rw [em]
    exact fun d h1 e h2 => List.all_eq_true.mp (List.all_eq_true.mp o1 d h1) e h2
  have hk : PySem.W.Sortable ((xs.zip ds).map Prod.snd) := by
    rw [em]
    rcases o2 with o2 | o2
    · refine .inl fun d hd => ?_
      have := List.all_eq_true.mp o2 d hd
      unfold tup1 at this
      split at this
      · exact ⟨_, _, rfl⟩
      · cases this
    · refine .inr fun d hd => ?_
      have := List.all_eq_true.mp o2 d hd
      unfold notTup at this
      split at this
      · cases this
      · cases this
      · rename_i h1 h2
        exact ⟨fun z => h2 z, fun ys z => h1 ys z⟩
  have g1 : (xs.zip ds).length ≤ sizeLine := by
    rw [List.length_zip, hlen, Nat.min_self, sizeLine_eq]; exact o4
  have g2 : ∀ b ∈ xs.zip ds, X.A.units + 2 + b.2.depth < cLine := by
    intro b hb
    have hb2 : b.2 ∈ ds := by rw [← em]; exact List.mem_map_of_mem hb
    have := List.all_eq_true.mp o3 _ hb2
    simp only [Bool.and_eq_true, decide_eq_true_eq] at this
    have := u65 (X := X) hr
    omega
  have g3 : ∀ out : List Value, out.length = (xs.zip ds).length → PySem.W.EachIs (fun (u : Value) (b : V × D) => RelV b.1 u) out ((xs.zip ds).mergeSort (PySem.W.dataLe false Prod.snd)) → EP X pins σ Q (.ref (s.heap.objs.size + 1)) { s with heap := sortedAll s.heap its (List.toArray out) } := by
    intro out h1 h2
    have hp : ((xs.zip ds).mergeSort (PySem.W.dataLe false Prod.snd)).Perm (xs.zip ds) := List.mergeSort_perm _ _
    have hm : ((xs.zip ds).mergeSort (PySem.W.dataLe false Prod.snd)).map Prod.snd = ds.mergeSort dLe := by
      have z := PySem.W.sort_maps (r := PySem.W.dataLe false Prod.snd) (s := dLe) (Prod.snd : V × D → D) (l := xs.zip ds) (fun _ _ _ _ => rfl)
      rw [em] at z; exact z
    have hv := valsR h2
    have hL : (((xs.zip ds).mergeSort (PySem.W.dataLe false Prod.snd)).map Prod.fst).length ≤ sizeLine := by
      rw [List.length_map, hp.length_eq, List.length_zip, hlen, Nat.min_self, sizeLine_eq]; exact o4
    obtain ⟨ep, he'⟩ := PyProof.Rows.sortedAll_at s.heap its (List.toArray out)
    exact ⟨.ref _, upd H (s.heap.objs.size + 1) (.lst _), I.laid (t' := s.toks) (fun _ _ => PyProof.Rows.sortedAll_old) (Nat.le_succ _) ⟨hL, out, ep, hv, he'⟩, rfl, q _ _ hp hm (I.hok.fresh (Nat.le_succ _))⟩
  rcases hl with hl | hl
  · exact PySem.W.sorted_data (bs := xs.zip ds) (enc := Prod.snd) hl e1 e2 hal hk g1 g2 g3
  · exact sorted_tupD (bs := xs.zip ds) (enc := Prod.snd) hl e1 e2 hal hk g1 g2 g3
def fSorted : List D → Option Pl
  | [.list a] => (sortDs a).map fun es => .tmp (.list es)
  | [.tuple a] => (sortDs a).map fun es => .tmp (.list es)
  | _ => none
theorem sortOk_lay {a : List D} (h : sortOk a = true) : PyData.canLayAll0 a = true := by
  simp only [sortOk, Bool.and_eq_true] at h
  have : ∀ ds : List D, ds.all (fun d => d.canLay0 && decide (d.depth ≤ 60)) = true → PyData.canLayAll0 ds = true := by
    intro ds
    induction ds with
    | nil => intro _; simp [PyData.canLayAll0]
    | cons d ds ih =>
      intro h
      simp only [List.all_cons, Bool.and_eq_true] at h
      simp only [PyData.canLayAll0, Bool.and_eq_true]
      exact ⟨h.1.1, ih (by simpa using h.2)⟩
  exact this a h.1.2
theorem sorted_ok (K : PySem.W.Frag) : CallOk K (rSortD K) fSorted := by
  intro G H xs ds p Q s hx e q
  have main : ∀ {a es : List D} {b : Addr} {ys : List V}, sortDs a = some es → xs = [V.ref b] → (SqL K H b ys ∨ SqT K H b ys) → FzA K G ys a → p = .tmp (.list es) → rSortD K xs H Q := by
    intro a es b ys h hxs hs h2 hp
    subst hxs hp
    obtain ⟨o1, rfl⟩ := sortDs_ok h
    refine ⟨b, ys, a, rfl, hs, h2.dp s (sortOk_lay o1), o1, fun bs p hp hm hn => ?_⟩
    obtain ⟨z1, z2, z3⟩ := h2.zip
    have := FzA.unzip (K := K) (G := G) (bs := bs) fun c hc => z1 c (hp.mem_iff.mp hc)
    rw [hm] at this
    exact q _ _ (.lst hn this)
  unfold fSorted at e
  split at e
  · rename_i a
    cases h : sortDs a with
    | none => rw [h] at e; cases e
    | some es =>
      rw [h] at e
      obtain ⟨v, rfl, hv⟩ := hx.one
      obtain ⟨b, ys, rfl, h1, h2⟩ := hv.lst s
      exact main h rfl (.inl (.inl h1)) h2 (Option.some.inj e).symm
  · rename_i a
    cases h : sortDs a with
    | none => rw [h] at e; cases e
    | some es =>
      rw [h] at e
      obtain ⟨v, rfl, hv⟩ := hx.one
      obtain ⟨b, ys, rfl, _, h1, h2⟩ := hv.tup s
      exact main h rfl (.inr h1) h2 (Option.some.inj e).symm
  · cases e

/-! ### list(range(..)), tuple(range(..)) -/
def SR (X : Cx) (e : Expr) (c : Rho → R (Int × Int)) : Prop := ∀ W : WX, Takes X W → PRg X e fun σ H Q => ∃ (L : L2.St) (ρ : Rho) (G B : Hp), Rel X.K L B σ ρ G H ∧ Got X L W σ G B (fun ab _ _ _ (b : Int × Int) => b = ab) (c ρ) (fun ab H' => Q ab.1 ab.2 H')
theorem PRgimp {X : Cx} {e : Expr} {t t' : L2.St → Hp → (Int → Int → Hp → Prop) → Prop} (h : PRg X e t) (w : ∀ σ H Q, t' σ H Q → t σ H Q) : PRg X e t' := fun pins s σ H Q I q => h pins s σ H Q I (w _ _ _ q)
def cRg1 (a : CE) : Rho → R (Int × Int) := fun ρ => (a ρ).bind fun p ρ1 => match look p ρ1 with
  | some (.int i) => .ok (0, i) ρ1
  | _ => .bad
def cRg2 (a b : CE) : Rho → R (Int × Int) := fun ρ => (a ρ).bind fun p ρ1 => (b ρ1).bind fun q ρ2 => match look p ρ2, look q ρ2 with
  | some (.int i), some (.int j) => .ok (i, j) ρ2
  | _, _ => .bad
variable {a b e : Expr} {ca cb : CE} {p pos : Pos} {cr : Rho → R (Int × Int)}
theorem sr_1 (hg : Gl X "range") (hm : X.mg "range" = none) (ha : SX X a ca) (na : starEach [a] X.env = (false, eval a X.env) :: starEach [] X.env := by rfl) : SR X (.Call (.Name "range" p) [a] [] pos) (cRg1 ca) := fun W tk =>
  PRgimp (prg_1 hg hm (ha W tk) na) (by
  rintro σ H Q ⟨L, ρ, G, B, rel, h⟩
  refine ⟨L, ρ, G, B, rel, (Got.bind h).mono ?_⟩
  rintro v H1 ⟨q, ρ1, G1, _, rel1, _, fx1, h1⟩
  split at h1
  · rename_i i e1
    exact ⟨i, (fx1.look rel1 e1).int, h1 (0, i) H1 G1 rel1 .refl rfl⟩
  · exact h1.elim)
def rgI (a b : Int) : List Int := (List.range (b - a).toNat).map fun i => a + (i : Nat)
theorem rgV_eq (a b : Int) : rgV a b = (rgI a b).map V.int := by unfold rgV rgI; rw [List.map_map]; rfl
def rgOk (a b : Int) : Bool := decide (-1000000 ≤ a) && decide (a ≤ 1000000) && decide (-1000000 ≤ b) && decide (b ≤ 1000000)
theorem rgOk_ok {a b : Int} (h : rgOk a b = true) : RgOk a b := by
  simp only [rgOk, Bool.and_eq_true, decide_eq_true_eq] at h
  exact ⟨by omega, by omega, by omega, by omega, by omega⟩
def cLstRg (c : Rho → R (Int × Int)) : CE := fun ρ => match c ρ with
  | .ok ab ρ1 => if rgOk ab.1 ab.2 = true then .ok (.tmp (.list ((rgI ab.1 ab.2).map .int))) ρ1 else .bad
  | .exc x ρ1 => .exc x ρ1
  | .bad => .bad
def cTupRg (c : Rho → R (Int × Int)) : CE := fun ρ => match c ρ with
  | .ok ab ρ1 => if rgOk ab.1 ab.2 = true then .ok (.val (.tuple ((rgI ab.1 ab.2).map .int))) ρ1 else .bad
  | .exc x ρ1 => .exc x ρ1
  | .bad => .bad
theorem sx_lstRg (hc : X.calm = true) (hg : Gl X "list") (hm : X.mg "list" = none) (he : SR X e cr) (na : starEach [e] X.env = (false, eval e X.env) :: starEach [] X.env := by rfl) : SX X (.Call (.Name "list" p) [e] [] pos) (cLstRg cr) := fun W tk =>
  PEimp (pe_listRg hc hg hm (he W tk) na) (by
  rintro σ H Q ⟨L, ρ, G, B, rel, h⟩
  refine ⟨L, ρ, G, B, rel, ?_⟩
  unfold cLstRg at h
  cases q : cr ρ with
  | bad => rw [q] at h; exact h.elim
  | exc x ρ1 => rw [q] at h; exact h
  | ok ab ρ1 =>
    simp only [q] at h
    rintro ab' H1 G1 rel1 ext1 rfl
    split at h
    · rename_i ok
      refine ⟨rgOk_ok ok, fun q' hq => ?_⟩
      rw [rgV_eq]
      exact Got.done rel1 (Got.shift ext1 h) (.lst hq (.of_ints _))
    · exact h.elim)
/-! ### x in range(..) -/
/-! ### len(set(xs)) of ints -/
def ddI (ns : List Int) : List Int := ns.foldl step_dedup []
theorem dd_nodup : ∀ (ns acc : List Int), acc.Nodup → (ns.foldl step_dedup acc).Nodup ∧ ∀ x, x ∈ ns.foldl step_dedup acc ↔ x ∈ acc ∨ x ∈ ns
  | [], acc, h => ⟨h, fun x => by simp⟩
  | n :: ns, acc, h => by
    have h2 : (step_dedup acc n).Nodup ∧ ∀ x, x ∈ step_dedup acc n ↔ x ∈ acc ∨ x = n := by
      unfold step_dedup
      by_cases hb : acc.any (· == n) = true
      · rw [if_pos hb]
        refine ⟨h, fun x => ⟨.inl, fun z => z.elim id fun e => ?_⟩⟩
        subst e
        obtain ⟨y, hy, ey⟩ := List.any_eq_true.mp hb
        rw [← eq_of_beq ey]; exact hy
      · rw [if_neg hb]
        refine ⟨?_, fun x => by simp⟩
        rw [List.nodup_append]
        refine ⟨h, by simp, fun a ha b hb' => ?_⟩
        rw [List.mem_singleton] at hb'
        subst hb'
        intro e
        subst e
        exact hb (List.any_eq_true.mpr ⟨_, ha, by simp⟩)
    obtain ⟨i1, i2⟩ := dd_nodup ns (step_dedup acc n) h2.1
    refine ⟨i1, fun x => ?_⟩
    rw [List.foldl_cons, i2, h2.2]
    simp only [List.mem_cons]
    constructor
    · rintro ((h | h) | h)
      · exact .inl h
      · exact .inr (.inl h)
      · exact .inr (.inr h)
    · rintro (h | h | h)
      · exact .inl (.inl h)
      · exact .inl (.inr h)
      · exact .inr h
theorem ddI_nodup (ns : List Int) : (ddI ns).Nodup := (dd_nodup ns [] .nil).1
theorem ddI_mem (ns : List Int) (x : Int) : x ∈ ddI ns ↔ x ∈ ns := by
  have := (dd_nodup ns [] .nil).2 x
  simpa [ddI] using this
theorem len_of_nodup {xs ys : List Int} (h1 : xs.Nodup) (h2 : ys.Nodup) (h : ∀ x, x ∈ xs ↔ x ∈ ys) : xs.length = ys.length :=
  (List.perm_ext_iff_of_nodup h1 h2 |>.mpr h).length_eq
theorem firstMet_dd (ns : List Int) : PyProof.Rows.firstMet (fun i => ns.getD i 0) ns.length = ddI ns := by
  unfold PyProof.Rows.firstMet ddI
  congr 1
  apply List.ext_getElem?
  intro i
  rw [List.getElem?_map]
  by_cases hi : i < ns.length
  · simp [hi]
  · simp [hi]

/-- len(set(xs)) -/
def lenSetR (K : PySem.W.Frag) (ta : TE) : TE := fun σ H Q => ta σ H fun x H1 => ∃ (l : Addr) (ns : List Int), x = .ref l ∧ rSeqI K H1 l ns ∧ ns.length ≤ 4000 ∧ Q (.int ((ddI ns).length : Nat)) H1
theorem pe_lenSetA {ta : TE} {p2 q : Pos} (hg : Gl X "len") (hm : X.mg "len" = none) (hg2 : Gl X "set") (hm2 : X.mg "set" = none) (ha : PE X a ta) (hc : X.calm = true)
    (na : starEach [a] X.env = (false, eval a X.env) :: starEach [] X.env := by rfl) : PE X (.Call (.Name "len" p) [.Call (.Name "set" p2) [a] [] q] [] pos) (lenSetR X.K ta) := by
  refine ⟨fun pins s σ H Q I h => ?_⟩
  refine Call_ (ld_blt I hg hm boot_len ?_)
  refine PyProof.Rows.callWith_builtin1 (PyProof.Rows.args_cons ?_ rfl) rfl rfl
  refine Call_ (ld_blt I hg2 hm2 PyProof.Rows.boot_set ?_)
  refine PyProof.Rows.callWith_type1 (PyProof.Rows.args_cons (thn (ha.run pins s σ H _ I h) fun v s1 ⟨x, H1, I1, r1, q1⟩ => PyProof.Rows.args_nil ?_) na) na rfl
  obtain ⟨l, ns, rfl, hq, hl, q1⟩ := q1
  cases r1
  rcases hq with hq | hq
  · obtain ⟨its, r, pl, hz⟩ := I1.list hq
    have hlen : its.toArray.size = ns.length := by rw [List.size_toArray, ← r.length, List.length_map]
    refine call_set_list (I1.ok.hd hc) pl.isList (by simpa using r.ints) (by rw [hlen]; unfold scanBound; omega) fun h' tk hS hk => ?_
    refine PyProof.Rows.args_nil ?_
    rw [hlen, firstMet_dd] at hS
    obtain ⟨o, es, ep, t, ho, hex, hd, _, _, _, hf, hn⟩ := hS
    have I2 : Inv X pins σ H1 { s1 with heap := h', toks := tk } := I1.kept fun b o e => hk b o (Heap.lt_size e) e
    have hdl : (ddI ns).length ≤ ns.length := by rw [← firstMet_dd]; exact PyProof.Rows.firstMet_length_le _ _
    exact call_len_set ho hex hd hf (by rw [hn] <;> omega) ⟨.int (ddI ns).length, H1, I2.tok _, ⟨_, by rw [hn]⟩, q1⟩
  · obtain ⟨its, r, pl, hz⟩ := I1.tuple hq
    have hlen : its.toArray.size = ns.length := by rw [List.size_toArray, ← r.length, List.length_map]
    refine call_set_tupI ns (I1.ok.hd hc) pl (by simpa using r.ints) (by unfold scanBound; omega) fun h' tk c hS hcl hk => ?_
    refine PyProof.Rows.args_nil ?_
    obtain ⟨o, es, ep, t, ho, hex, hd, hg, hnd, hmem, hbd, hf, hn, _⟩ := hS
    have I2 : Inv X pins σ H1 { s1 with heap := h', toks := tk } := I1.kept hk
    have e : c = (ddI ns).length := by
      rw [← hn, ← Array.length_toList, ← List.length_map (f := keyOf)]
      refine len_of_nodup hnd (ddI_nodup ns) fun x => ?_
      rw [ddI_mem, ← hmem x, decide_eq_true_eq]
    subst e
    exact call_len_set ho hex hd hf (by rw [hn] <;> omega) ⟨.int (ddI ns).length, H1, I2.tok _, ⟨_, by rw [hn]⟩, q1⟩
def fLenSet (d : D) : Option Pl := match seqInts d with
  | some ns => if ns.length ≤ 4000 then some (.val (.int ((ddI ns).length : Nat))) else none
  | none => none
theorem sx_lenSet {p2 q : Pos} (hc : X.calm = true) (hg : Gl X "len") (hm : X.mg "len" = none) (hg2 : Gl X "set") (hm2 : X.mg "set" = none) (ha : SX X a ca)
    (na : starEach [a] X.env = (false, eval a X.env) :: starEach [] X.env := by rfl) : SX X (.Call (.Name "len" p) [.Call (.Name "set" p2) [a] [] q] [] pos) (cUn fLenSet ca) := fun W tk =>
  PEimp (pe_lenSetA hg hm hg2 hm2 (ha W tk) hc na) (by
  rintro σ H Q ⟨L, ρ, G, B, rel, h⟩
  refine ⟨L, ρ, G, B, rel, (Got.bind h).mono ?_⟩
  rintro v H1 ⟨q, ρ1, G1, _, rel1, _, fx1, h1⟩
  cases e1 : look q ρ1 with
  | none => simp only [e1] at h1; exact h1.elim
  | some d =>
    simp only [e1] at h1
    unfold fLenSet at h1
    cases e2 : seqInts d with
    | none => simp only [e2] at h1; exact h1.elim
    | some ns =>
      simp only [e2] at h1
      by_cases hl : ns.length ≤ 4000
      · rw [if_pos hl] at h1
        obtain ⟨a, rfl, ha⟩ := (fx1.look rel1 e1).ints rel1.sub e2
        exact ⟨a, ns, rfl, ha, hl, Got.done rel1 h1 (.fz (.int _))⟩
      · rw [if_neg hl] at h1; exact h1.elim)
end
end TN
/-! ### enumerate(tuple) -/
namespace PySem
open Sem (wp)
open AutoSeq1 (wpAny_loadPart')
theorem meets_enumerate_newT (l : Addr) (items : Array Value) (n : Nat) (dct : Option Addr) (sl : Array (Option Value)) :
    Meets (Builtin.«enumerate.__new__» ⟨[.type "enumerate", .ref l], []⟩) (fun _ R s => s.heap.get? l = some { cls := .type "tuple", dict := dct, data := .seq items n, slots := sl } ∧
      R (.ok (.ret (.ref (s.heap.push { cls := .type "tuple_iterator", data := .fields #[.ref l, .int 0 0] }).objs.size)))
        { s with heap := (s.heap.push { cls := .type "tuple_iterator", data := .fields #[.ref l, .int 0 0] }).push { cls := .type "enumerate", data := .fields #[.none, .bool false, .ref s.heap.objs.size, rawInt 0, .none, .none] } }) :=
  .of_wp fun prog w A R s h => by
    obtain ⟨hp, g, d, tk, os⟩ := s; obtain ⟨hl, h⟩ := h
    have hsub := sub_enumerate
    have hL : Heap.IsTuple (Shared.heap ⟨hp, g, d, tk, os⟩) l items := ⟨_, hl, rfl, n, rfl⟩
    wp_walk using wpAny_loadPart' hl
    refine wpAny_stack_any fun st => wpAny_pure ?_
    split
    · rename_i c _ _ _ _ _
      cases (c == Value.type "enumerate")
      · wp_walk using wpAny_loadPart' hl, wpAny_pyIter_tuple hL
        exact ⟨_, rfl, h⟩
      · wp_walk using wpAny_loadPart' hl, wpAny_pyIter_tuple hL
        exact ⟨_, rfl, h⟩
    · wp_walk using wpAny_loadPart' hl, wpAny_pyIter_tuple hL
      exact ⟨_, rfl, h⟩
section
variable {prog : Program} {w : World} {A : Around} {E : Value → Shared → Prop} {s : Shared}
theorem call_enumerate_tup {l : Addr} {items : Array Value} {Q : Value → Shared → Prop} (hL : s.heap.IsTuple l items)
    (h : ∀ h', IsEnum h' (s.heap.objs.size + 1) s.heap.objs.size 0 .none → h'.IsTupleIter s.heap.objs.size l 0 → h'.objs.size = s.heap.objs.size + 2 →
      (∀ b o, s.heap.get? b = some o → h'.get? b = some o) → Q (.ref (s.heap.objs.size + 1)) { s with heap := h' }) :
    wpAny (model prog w) A (call (.type "enumerate") [.ref l]) Q E s := by
  obtain ⟨⟨c, dct, dt, sl⟩, hl, hc, n, hd⟩ := hL
  replace hc : c = .type "tuple" := hc
  replace hd : dt = .seq items n := hd
  subst hc hd
  refine callType_new F.called_enumerate (by decide) (F.typeCall_enumerate_1 _) (F.newCall_enumerate_1 _) (fun obj => F.args_object_init_2 obj _) F.entry_enumerate_new
    (meets_enumerate_newT l items n dct sl) ⟨hl, ?_⟩
  have hz : (s.heap.push { cls := .type "tuple_iterator", data := .fields #[.ref l, .int 0 0] }).objs.size = s.heap.objs.size + 1 := Heap.size_push ..
  show _ ∧ _
  rw [hz]
  have he : IsEnum ((s.heap.push { cls := .type "tuple_iterator", data := .fields #[.ref l, .int 0 0] }).push
      { cls := .type "enumerate", data := .fields #[.none, .bool false, .ref s.heap.objs.size, rawInt 0, .none, .none] }) (s.heap.objs.size + 1) s.heap.objs.size 0 .none := by
    have := Heap.get?_push_size (s.heap.push { cls := .type "tuple_iterator", data := .fields #[.ref l, .int 0 0] })
      (o := { cls := .type "enumerate", data := .fields #[.none, .bool false, .ref s.heap.objs.size, rawInt 0, .none, .none] }) rfl
    rw [hz] at this; exact this
  refine ⟨⟨_, he, rfl⟩, h _ he ⟨_, Heap.get?_push_of_some _ (Heap.get?_push_size _ rfl), rfl, rfl⟩ (by rw [Heap.size_push, hz]) fun b o x => Heap.get?_push_of_some _ (Heap.get?_push_of_some _ x)⟩
theorem wpAny_pyNext_enumT_end {e it l : Addr} {i : Nat} {items : Array Value} {old : Value} {Q : Option Value → Shared → Prop} (hh : A.handled = none)
    (he : IsEnum s.heap e it i old) (hit : s.heap.IsTupleIter it l i) (hl : s.heap.IsTuple l items) (hx : items[i]? = none)
    (hQ : ∀ h', Heap.ExtBut it s.heap h' → Q none { s with heap := h' }) : wpAny (model prog w) A (pyNext (.ref e)) Q E s := by
  have hT : s.TypeIs (.ref e) "enumerate" := ⟨_, he, rfl⟩
  unfold pyNext
  refine wpAny_bind (wpAny_attempt (wpAny_callSpecial?_slot (name := Str.ofString "__next__") hT F.slot_enumerate_next
    (wpAny_call_entry F.slot_enumerate_next hT F.entry_enumerate_next ?_ (F.args_enumerate_next_1 _))))
  show wpAny _ _ (field (.ref e) 2 >>= _) _ _ _
  refine wpAny_bind (wpAny_field he rfl (x := .ref it) rfl ?_)
  refine wpAny_bind (wpAny_nextOf_tuple_end hh hit hl hx fun h' x he' hx' => ?_)
  obtain ⟨o, ho, hc⟩ := hx'
  refine wpAny_bind (wpAny_isInstance (T := "StopIteration") (b := true) ⟨o, ho, hc⟩ isSubtype_stop ?_)
  exact wpAny_pure (hQ _ he')
end
end PySem
namespace TN
open PySem PySem.Spec PyProof.Rows L2
/-- the tuple at a, each item in a new pair -/
def IteT (K : PySem.W.Frag) (a : Addr) : It :=
  ⟨fun i H => ∃ (xs : List V) (x : V), SqT K H a xs ∧ xs[i]? = some x, fun i H v H' => ∃ T x, ∃ o : Obj, v = .ref T ∧ H T = none ∧ H' = upd H T (.frz o (.tup [.int (i : Nat), x])) ∧ o.dict = none ∧ ∀ xs, SqT K H a xs → xs[i]? = some x, fun i H => ∃ xs : List V, SqT K H a xs ∧ xs.length ≤ i⟩
theorem turn_enumT {P : Program} {w : World} {K : PySem.W.Frag} {elts : List Expr} {kk : Nat} {tpos : Pos} (a e it : Addr) :
    Turn P w K (.Tuple elts kk tpos) (IteT K a) [e, it] e (fun i h => (∃ old, IsEnum h e it ((i : Nat) : Int) old) ∧ h.IsTupleIter it a i ∧ e ≠ it) where
  mem := by simp
  obj := fun i h st b hb => by
    obtain ⟨⟨old, he⟩, ⟨o, ho, hc, hd⟩, _⟩ := st
    have e' : b = e ∨ b = it := by simpa using hb
    rcases e' with z | z
    · rw [z]; exact ⟨_, he, fun v q => nomatch q⟩
    · rw [z]; exact ⟨o, ho, fun v q => by rw [hd] at q; cases q⟩
  keep := fun i h h' st k => let ⟨⟨old, he⟩, hi, hne⟩ := st; ⟨⟨old, k e (by simp) _ he⟩, hi.at fun o q => k it (by simp) o q, hne⟩
  item := by
    intro X hP hw hK hc i pins s σ H E I hf st hg
    subst hP hw hK
    obtain ⟨⟨old, he⟩, hit, hne⟩ := st
    obtain ⟨xs, x, hq, hx⟩ := hg
    obtain ⟨its, rv, p, hz⟩ := I.tuple hq
    obtain ⟨u, hu, ru⟩ := rv.get hx
    have hel : e < s.heap.objs.size := Heap.lt_size he
    have hil : it < s.heap.objs.size := by obtain ⟨_, q, _⟩ := hit; exact Heap.lt_size q
    have hie : it ≠ a := fun z => by
      subst z
      obtain ⟨o, e1, c1, _⟩ := p
      obtain ⟨o', e2, c2, _⟩ := hit
      rw [e1] at e2; cases e2
      rw [c1] at c2; exact absurd c2 (by decide)
    have hea : e ≠ a := fun z => by
      subst z
      obtain ⟨o, e1, c1, _⟩ := p
      rw [he] at e1; cases e1
      exact absurd (show Value.type "enumerate" = Value.type "tuple" from c1) (by decide)
    have hlt : i < its.toArray.size := by
      obtain ⟨z, _⟩ := List.getElem?_eq_some_iff.mp hu
      simpa using z
    refine wpAny_pyNext_enum_itemD (Draws.tuple (A := X.A.in1) (I.ok.hd hc) it a (Ne.symm hie) its.toArray) he ⟨hit, p⟩ hlt hne (by simp [hne, hea]) fun x' h' tk hx' ho hit' hT hsz hk => ?_
    have ex : x' = u := by
      have h1 : its[i]? = some x' := by simpa using hx'
      rw [hu] at h1; cases h1; rfl
    subst ex
    refine ⟨_, rfl, wpAny_letOwnedTupleGo_enum (s := { s with heap := h', toks := tk + 1 }) ho fun h'' he' sb => ?_⟩
    have hT2 : h''.get? s.heap.objs.size = some { cls := .type "tuple", data := .seq #[.int i tk, x'] } := (sb.2 _ (Nat.ne_of_gt hel)).trans hT
    have new : ObjOk X.prog X.w (upd H s.heap.objs.size (.frz { cls := .type "tuple", data := .seq #[.int i tk, x'] } (.tup [.int (i : Nat), x]))) h'' s.heap.objs.size (.frz { cls := .type "tuple", data := .seq #[.int i tk, x'] } (.tup [.int (i : Nat), x])) :=
      ⟨hT2, by show 2 ≤ sizeLine; decide, [.int i tk, x'], .cons ⟨_, rfl⟩ (.cons ru .nil), ⟨_, hT2, rfl, _, rfl⟩⟩
    have I1 : Inv X pins σ (upd H s.heap.objs.size (.frz { cls := .type "tuple", data := .seq #[.int i tk, x'] } (.tup [.int (i : Nat), x]))) { s with heap := h'', toks := tk + 1 } :=
      I.turnedNew (ch := [e, it]) (fun b ob hb q => (sb.2 b (fun z => hb (by simp [z]))).trans (hk b ob (fun z => hb (by simp [z])) (fun z => hb (by simp [z])) q)) hf (Nat.le_refl _) new
    refine ⟨.ref s.heap.objs.size, _, I1, rfl, ⟨_, x, _, rfl, I.hok.fresh (Nat.le_refl _), rfl, rfl, fun ys hy => by rw [I.tuple_inj hy hq]; exact hx⟩, ⟨⟨x', ?_⟩, hit'.1.at fun o q => (sb.2 it (Ne.symm hne)).trans q, hne⟩, fun b hb => ?_⟩
    · have e1 : ((i + 1 : Nat) : Int) = (i : Int) + 1 := by omega
      rw [e1]; exact he'
    · have hb' : b < s.heap.objs.size := by
        have e' : b = e ∨ b = it := by simpa using hb
        rcases e' with z | z
        · rw [z]; exact hel
        · rw [z]; exact hil
      rw [upd_ne (Nat.ne_of_lt hb')]
      exact (hf b hb).1
  done := by
    intro X hP hw hK hc i pins s σ H E I hf st hg
    subst hP hw hK
    obtain ⟨⟨old, he⟩, hit, hne⟩ := st
    obtain ⟨xs, hq, hx⟩ := hg
    obtain ⟨its, rv, p, hz⟩ := I.tuple hq
    obtain ⟨f0, f1, f2, f3, f4, f5⟩ := hf it (by simp)
    have hl := rv.length
    have hend : its.toArray[i]? = none := by simp; omega
    exact wpAny_pyNext_enumT_end (I.ok.hd hc) he hit p hend fun h' eb => ⟨rfl, I.turned (t' := s.toks) (fun b o hb q => eb b o hb q) f0 f1 f3 f4 f5⟩
  self := fun A i s Q E st h => let ⟨⟨_, he⟩, _⟩ := st; wpAny_pyIter_enum he h
/-- the list at a, each item in a new pair -/
def IteL (K : PySem.W.Frag) (a : Addr) : It :=
  ⟨fun i H => ∃ (xs : List V) (x : V), SqL K H a xs ∧ xs[i]? = some x, fun i H v H' => ∃ T x, ∃ o : Obj, v = .ref T ∧ H T = none ∧ H' = upd H T (.frz o (.tup [.int (i : Nat), x])) ∧ o.dict = none ∧ ∀ xs, SqL K H a xs → xs[i]? = some x, fun i H => ∃ xs : List V, SqL K H a xs ∧ xs.length ≤ i⟩
theorem turn_enumL {P : Program} {w : World} {K : PySem.W.Frag} {elts : List Expr} {kk : Nat} {tpos : Pos} (a e it : Addr) :
    Turn P w K (.Tuple elts kk tpos) (IteL K a) [e, it] e (fun i h => (∃ old, IsEnum h e it ((i : Nat) : Int) old) ∧ h.IsListIter it a i ∧ e ≠ it) where
  mem := by simp
  obj := fun i h st b hb => by
    obtain ⟨⟨old, he⟩, ⟨o, ho, hc, hd⟩, _⟩ := st
    have e' : b = e ∨ b = it := by simpa using hb
    rcases e' with z | z
    · rw [z]; exact ⟨_, he, fun v q => nomatch q⟩
    · rw [z]; exact ⟨o, ho, fun v q => by rw [hd] at q; cases q⟩
  keep := fun i h h' st k => let ⟨⟨old, he⟩, hi, hne⟩ := st; ⟨⟨old, k e (by simp) _ he⟩, hi.at fun o q => k it (by simp) o q, hne⟩
  item := by
    intro X hP hw hK hc i pins s σ H E I hf st hg
    subst hP hw hK
    obtain ⟨⟨old, he⟩, hit, hne⟩ := st
    obtain ⟨xs, x, hq, hx⟩ := hg
    obtain ⟨its, rv, pl, hz⟩ := I.list hq
    have p := pl.isList
    obtain ⟨u, hu, ru⟩ := rv.get hx
    have hel : e < s.heap.objs.size := Heap.lt_size he
    have hil : it < s.heap.objs.size := by obtain ⟨_, q, _⟩ := hit; exact Heap.lt_size q
    have hie : it ≠ a := fun z => by
      subst z
      obtain ⟨o, e1, c1, _⟩ := p
      obtain ⟨o', e2, c2, _⟩ := hit
      rw [e1] at e2; cases e2
      rw [c1] at c2; exact absurd c2 (by decide)
    have hea : e ≠ a := fun z => by
      subst z
      obtain ⟨o, e1, c1, _⟩ := p
      rw [he] at e1; cases e1
      exact absurd (show Value.type "enumerate" = Value.type "list" from c1) (by decide)
    have hlt : i < its.toArray.size := by
      obtain ⟨z, _⟩ := List.getElem?_eq_some_iff.mp hu
      simpa using z
    refine wpAny_pyNext_enum_itemD (Draws.list (A := X.A.in1) (I.ok.hd hc) it a (Ne.symm hie) its.toArray) he ⟨hit, p⟩ hlt hne (by simp [hne, hea]) fun x' h' tk hx' ho hit' hT hsz hk => ?_
    have ex : x' = u := by
      have h1 : its[i]? = some x' := by simpa using hx'
      rw [hu] at h1; cases h1; rfl
    subst ex
    refine ⟨_, rfl, wpAny_letOwnedTupleGo_enum (s := { s with heap := h', toks := tk + 1 }) ho fun h'' he' sb => ?_⟩
    have hT2 : h''.get? s.heap.objs.size = some { cls := .type "tuple", data := .seq #[.int i tk, x'] } := (sb.2 _ (Nat.ne_of_gt hel)).trans hT
    have new : ObjOk X.prog X.w (upd H s.heap.objs.size (.frz { cls := .type "tuple", data := .seq #[.int i tk, x'] } (.tup [.int (i : Nat), x]))) h'' s.heap.objs.size (.frz { cls := .type "tuple", data := .seq #[.int i tk, x'] } (.tup [.int (i : Nat), x])) :=
      ⟨hT2, by show 2 ≤ sizeLine; decide, [.int i tk, x'], .cons ⟨_, rfl⟩ (.cons ru .nil), ⟨_, hT2, rfl, _, rfl⟩⟩
    have I1 : Inv X pins σ (upd H s.heap.objs.size (.frz { cls := .type "tuple", data := .seq #[.int i tk, x'] } (.tup [.int (i : Nat), x]))) { s with heap := h'', toks := tk + 1 } :=
      I.turnedNew (ch := [e, it]) (fun b ob hb q => (sb.2 b (fun z => hb (by simp [z]))).trans (hk b ob (fun z => hb (by simp [z])) (fun z => hb (by simp [z])) q)) hf (Nat.le_refl _) new
    refine ⟨.ref s.heap.objs.size, _, I1, rfl, ⟨_, x, _, rfl, I.hok.fresh (Nat.le_refl _), rfl, rfl, fun ys hy => by rw [I.list_inj hy hq]; exact hx⟩, ⟨⟨x', ?_⟩, hit'.1.at fun o q => (sb.2 it (Ne.symm hne)).trans q, hne⟩, fun b hb => ?_⟩
    · have e1 : ((i + 1 : Nat) : Int) = (i : Int) + 1 := by omega
      rw [e1]; exact he'
    · have hb' : b < s.heap.objs.size := by
        have e' : b = e ∨ b = it := by simpa using hb
        rcases e' with z | z
        · rw [z]; exact hel
        · rw [z]; exact hil
      rw [upd_ne (Nat.ne_of_lt hb')]
      exact (hf b hb).1
  done := by
    intro X hP hw hK hc i pins s σ H E I hf st hg
    subst hP hw hK
    obtain ⟨⟨old, he⟩, hit, hne⟩ := st
    obtain ⟨xs, hq, hx⟩ := hg
    obtain ⟨its, rv, pl, hz⟩ := I.list hq
    have p := pl.isList
    obtain ⟨f0, f1, f2, f3, f4, f5⟩ := hf it (by simp)
    have hl := rv.length
    have hend : its.toArray[i]? = none := by simp; omega
    exact wpAny_pyNext_enum_end (I.ok.hd hc) he hit p hend fun h' eb => ⟨rfl, I.turned (t' := s.toks) (fun b o hb q => eb b o hb q) f0 f1 f3 f4 f5⟩
  self := fun A i s Q E st h => let ⟨⟨_, he⟩, _⟩ := st; wpAny_pyIter_enum he h
end TN
namespace TN
open PySem PySem.Spec PyProof.Rows L2

/-! ### what is walked: soundness -/
section
variable {K : PySem.W.Frag} {G : Hp} {a b : Addr} {xs ys : List V} {ds es : List D}
theorem itok_list (h : Rd G a (.lst xs)) (f : FzA K G xs ds) : ItOk K G ds (Itl K a) := by
  intro G2 H2 s1 s2 i
  have h2 : SqL K H2 a xs := .inl (Same.rd (s1.trans s2) h)
  refine ⟨fun d hd => ?_, fun hl => ⟨xs, h2, by rw [f.length]; exact hl⟩⟩
  obtain ⟨v, hv, hf⟩ := f.get hd
  refine ⟨⟨xs, v, h2, hv⟩, fun x H3 hy => ?_⟩
  obtain ⟨rfl, hq⟩ := hy
  have := hq xs h2
  rw [hv] at this; cases this
  exact .fz (hf.mono s1)
theorem itok_tup (h : SqT K G a xs) (f : FzA K G xs ds) : ItOk K G ds (Itt K a) := by
  intro G2 H2 s1 s2 i
  have h2 : SqT K H2 a xs := Same.tp (s1.trans s2) h
  refine ⟨fun d hd => ?_, fun hl => ⟨xs, h2, by rw [f.length]; exact hl⟩⟩
  obtain ⟨v, hv, hf⟩ := f.get hd
  refine ⟨⟨xs, v, h2, hv⟩, fun x H3 hy => ?_⟩
  obtain ⟨rfl, hq⟩ := hy
  have := hq xs h2
  rw [hv] at this; cases this
  exact .fz (hf.mono s1)
theorem itok_rg (lo : Int) (n : Nat) : ItOk K G ((List.range n).map fun i => .int (lo + (i : Nat))) (Itr lo n) := by
  intro G2 H2 s1 s2 i
  refine ⟨fun d hd => ?_, fun hl => (show n ≤ i by simpa using hl)⟩
  rw [List.getElem?_map] at hd
  obtain ⟨j, hj, rfl⟩ := Option.map_eq_some_iff.mp hd
  obtain ⟨h1, h2⟩ := List.getElem?_eq_some_iff.mp hj
  have : j = i := by simpa using h2.symm
  subst this
  refine ⟨(show j < n by simpa using h1), fun x H3 hy => ?_⟩
  obtain ⟨rfl, rfl⟩ := hy
  exact .fz (.int _)
def charsD (x : Str) : List D := x.cps.toList.map fun c => .str ⟨#[c]⟩
theorem itok_str (x : Str) : ItOk K G (charsD x) (Its x) := by
  intro G2 H2 s1 s2 i
  unfold charsD
  refine ⟨fun d hd => ?_, fun hl => (show x.cps.size ≤ i by simpa using hl)⟩
  rw [List.getElem?_map] at hd
  obtain ⟨c, hc, rfl⟩ := Option.map_eq_some_iff.mp hd
  rw [Array.getElem?_toList] at hc
  refine ⟨(Array.getElem?_eq_some_iff.mp hc).1, fun y H3 hy => ?_⟩
  obtain ⟨rfl, c', hc', rfl⟩ := hy
  rw [hc] at hc'; cases hc'
  exact .fz (.str _)
/-- pairs (0, x), (1, y) .. -/
def enumD (ds : List D) : List D := ds.mapIdx fun i d => .tuple [.int (i : Nat), d]
theorem enumD_get {i : Nat} {d : D} (h : (enumD ds)[i]? = some d) : ∃ x, ds[i]? = some x ∧ d = .tuple [.int (i : Nat), x] := by
  unfold enumD at h
  rw [List.getElem?_mapIdx] at h
  obtain ⟨x, h1, rfl⟩ := Option.map_eq_some_iff.mp h
  exact ⟨x, h1, rfl⟩
theorem itok_enum (h : Rd G a (.lst xs)) (f : FzA K G xs ds) : ItOk K G (enumD ds) (IteL K a) := by
  intro G2 H2 s1 s2 i
  have h2 : SqL K H2 a xs := .inl (Same.rd (s1.trans s2) h)
  refine ⟨fun d hd => ?_, fun hl => ⟨xs, h2, by rw [f.length]; simpa [enumD] using hl⟩⟩
  obtain ⟨x, hx, rfl⟩ := enumD_get hd
  obtain ⟨v, hv, hf⟩ := f.get hx
  refine ⟨⟨xs, v, h2, hv⟩, fun y H3 hy => ?_⟩
  obtain ⟨T, z, o, rfl, hT, rfl, hd, hq⟩ := hy
  have := hq xs h2
  rw [hv] at this; cases this
  exact .tup hT hd (.cons (.int _) (.cons (hf.mono s1) .nil))
theorem itok_enumT (h : SqT K G a xs) (f : FzA K G xs ds) : ItOk K G (enumD ds) (IteT K a) := by
  intro G2 H2 s1 s2 i
  have h2 : SqT K H2 a xs := Same.tp (s1.trans s2) h
  refine ⟨fun d hd => ?_, fun hl => ⟨xs, h2, by rw [f.length]; simpa [enumD] using hl⟩⟩
  obtain ⟨x, hx, rfl⟩ := enumD_get hd
  obtain ⟨v, hv, hf⟩ := f.get hx
  refine ⟨⟨xs, v, h2, hv⟩, fun y H3 hy => ?_⟩
  obtain ⟨T, z, o, rfl, hT, rfl, hd, hq⟩ := hy
  have := hq xs h2
  rw [hv] at this; cases this
  exact .tup hT hd (.cons (.int _) (.cons (hf.mono s1) .nil))
def zipD (ds es : List D) : List D := List.zipWith (fun x y => .tuple [x, y]) ds es
end

/-- a list, a tuple, a text as it is walked -/
def seqD : D → Option (List D)
  | .list ds => some ds
  | .tuple ds => some ds
  | .str x => some (charsD x)
  | _ => none
section
variable {X : Cx} {tg e e2 : Expr} {c c2 : CE} {p pos : Pos}
/-- an expression's value, frozen -/
def cFz {α : Type} (c : CE) (k : D → Option α) : Rho → R α := fun ρ => (c ρ).bind fun p ρ1 => match frz p ρ1 with
  | some (d, ρ2) => match k d with
    | some a => .ok a ρ2
    | none => .bad
  | none => .bad
theorem fz_imp {α : Type} {W : WX} {k : D → Option α} {β : Type} {P : α → Rho → Hp → Hp → β → Prop} {σ : L2.St} {H : Hp} {R' : β → Hp → Prop}
    (h : ∃ (L : L2.St) (ρ : Rho) (G B : Hp), Rel X.K L B σ ρ G H ∧ Got X L W σ G B P (cFz c k ρ) R') :
    tX X W c σ H (fun v H1 => ∃ (L : L2.St) (ρ2 : Rho) (G2 B : Hp) (d : D) (a : α), k d = some a ∧ Rel X.K L B σ ρ2 G2 H1 ∧ Fz X.K G2 v d ∧ Got X L W σ G2 B P (.ok a ρ2) R') := by
  obtain ⟨L, ρ, G, B, rel, h⟩ := h
  refine ⟨L, ρ, G, B, rel, (Got.bind h).mono ?_⟩
  rintro v H1 ⟨q, ρ1, G1, _, rel1, ext1, fx1, h1⟩
  cases e1 : frz q ρ1 with
  | none => simp only [e1] at h1; exact h1.elim
  | some w =>
    obtain ⟨d, ρ2⟩ := w
    simp only [e1] at h1
    obtain ⟨G2, r2, x2, f2⟩ := fx1.frz rel1 e1
    cases e2 : k d with
    | none => simp only [e2] at h1; exact h1.elim
    | some a =>
      simp only [e2] at h1
      exact ⟨L, ρ2, G2, B, d, a, e2, r2, f2, Got.shift x2 h1⟩
def iAny (K : PySem.W.Frag) (t : TE) : TI := fun σ H R => t σ H fun v H1 => (∃ a xs, v = .ref a ∧ SqL K H1 a xs ∧ R (Itl K a) H1) ∨ (∃ a xs, v = .ref a ∧ SqT K H1 a xs ∧ R (Itt K a) H1) ∨ (∃ x, v = .str x ∧ R (Its x) H1)
theorem pi_any {t : TE} (hl : PE X e t) : PI X tg e (iAny X.K t) := by
  refine ⟨fun pins s σ H R I h => ?_⟩
  refine thn (hl.run pins s σ H _ I h) fun v s1 ⟨x, H1, I1, r1, q1⟩ => ?_
  rcases q1 with ⟨a, xs, ex, hq, q⟩ | ⟨a, xs, ex, hq, q⟩ | ⟨x', ex, q⟩
  · subst ex
    cases r1
    obtain ⟨its, rv, p, hz⟩ := I1.list hq
    refine wpAny_pyIter_list p.isList ?_
    exact pi_one (tk := s1.toks) I1 _ (turn_list a _) ⟨_, Heap.get?_push_size _ rfl, rfl, rfl⟩ q
  · subst ex
    cases r1
    obtain ⟨its, rv, p, hz⟩ := I1.tuple hq
    refine wpAny_pyIter_tuple (show s1.heap.IsTuple a its.toArray from p) ?_
    exact pi_one (tk := s1.toks) I1 _ (turn_tuple a _) ⟨_, Heap.get?_push_size _ rfl, rfl, rfl⟩ q
  · subst ex
    obtain ⟨t, rfl⟩ := r1
    cases ha : x'.cps.all (· < 128)
    · exact wpAny_pyIter_wide ha (pi_one (tk := s1.toks) I1 _ (turn_str _ x' t "str_iterator" (.inr rfl)) ⟨_, Heap.get?_push_size _ rfl, rfl, rfl⟩ q)
    · exact wpAny_pyIter_ascii ha (pi_one (tk := s1.toks) I1 _ (turn_str _ x' t "str_ascii_iterator" (.inl rfl)) ⟨_, Heap.get?_push_size _ rfl, rfl, rfl⟩ q)
def cIt (c : CE) : CI := cFz c seqD
theorem si_seq (h : SX X e c) : SI X tg e (cIt c) := fun W tk => PIimp (pi_any (h W tk)) (by
  intro σ H Q h
  obtain ⟨L, ρ, G, B, rel, h0⟩ := fz_imp h
  refine ⟨L, ρ, G, B, rel, h0.mono ?_⟩
  rintro v H1 ⟨L, ρ2, G2, B, d, ds, e1, rel2, f2, h2⟩
  cases d <;> simp only [seqD] at e1 <;> try (cases e1; done)
  · cases e1; cases f2
    exact .inr (.inr ⟨_, rfl, h2 _ H1 G2 rel2 .refl (itok_str _)⟩)
  · cases e1; cases f2 with
    | lst h1 h3 => exact .inl ⟨_, _, rfl, .inl (Same.rd rel2.sub h1), h2 _ H1 G2 rel2 .refl (itok_list h1 h3)⟩
  · cases e1; cases f2 with
    | tup h1 h3 => exact .inr (.inl ⟨_, _, rfl, Same.tp rel2.sub (sqt h1), h2 _ H1 G2 rel2 .refl (itok_tup (sqt h1) h3)⟩))
/-! range -/
def rgD (a b : Int) : List D := (List.range (b - a).toNat).map fun i => .int (a + (i : Nat))
def rgFit (a : Int) : Bool := decide (-1000000000000 ≤ a) && decide (a ≤ 1000000000000)
def cRng1 (c : CE) : CI := fun ρ => (c ρ).bind fun p ρ1 => match look p ρ1 with
  | some (.int j) => if rgFit j = true then .ok (rgD 0 j) ρ1 else .bad
  | _ => .bad
def cRng2 (c c2 : CE) : CI := fun ρ => (c ρ).bind fun p ρ1 => (c2 ρ1).bind fun q ρ2 => match look p ρ2, look q ρ2 with
  | some (.int i), some (.int j) => if rgFit i = true ∧ rgFit j = true then .ok (rgD i j) ρ2 else .bad
  | _, _ => .bad
theorem rgFit_ok {a : Int} (h : rgFit a = true) : -(2 ^ 62) ≤ a ∧ a < 2 ^ 62 := by
  simp only [rgFit, Bool.and_eq_true, decide_eq_true_eq] at h
  omega
theorem si_rng1 (hg : Gl X "range") (hm : X.mg "range" = none) (h : SX X e c) (hs : starEach [e] X.env = [(false, eval e X.env)] := by rfl) : SI X tg (.Call (.Name "range" p) [e] [] pos) (cRng1 c) := fun W tk =>
  PIimp (pi_range1 hg hm (pa_cons (h W tk) pa_nil hs) hs) (by
  rintro σ H Q ⟨L, ρ, G, B, rel, h⟩
  refine ⟨L, ρ, G, B, rel, (Got.bind h).mono ?_⟩
  rintro v H1 ⟨q, ρ1, G1, _, rel1, ext1, fx1, h1⟩
  split at h1
  · rename_i j e1
    split at h1
    · rename_i hf
      obtain ⟨f1, f2⟩ := rgFit_ok hf
      refine ⟨j, ?_, f1, f2, ?_⟩
      · rw [(fx1.look rel1 e1).int]
      · have := itok_rg (K := X.K) (G := G1) 0 (j - 0).toNat
        exact h1 _ H1 G1 rel1 .refl (by simpa [rgD] using this)
    · exact h1.elim
  · exact h1.elim)
theorem si_rng2 (hg : Gl X "range") (hm : X.mg "range" = none) (h : SX X e c) (h' : SX X e2 c2) (hs : starEach [e, e2] X.env = [(false, eval e X.env), (false, eval e2 X.env)] := by rfl) (hs2 : starEach [e2] X.env = [(false, eval e2 X.env)] := by rfl) :
    SI X tg (.Call (.Name "range" p) [e, e2] [] pos) (cRng2 c c2) := fun W tk =>
  PIimp (pi_range2 hg hm (pa_cons (h W tk) (pa_cons (h' W tk) pa_nil hs2) (by rw [hs, hs2])) hs hs2) (by
  rintro σ H Q ⟨L, ρ, G, B, rel, h⟩
  refine ⟨L, ρ, G, B, rel, (Got.bind h).mono ?_⟩
  rintro x H1 ⟨p, ρ1, G1, _, rel1, ext1, fx1, h1⟩
  refine ⟨L, ρ1, G1, B, rel1, (Got.bind h1).mono ?_⟩
  rintro y H2 ⟨q, ρ2, G2, _, rel2, ext2, fx2, h2⟩
  split at h2
  · rename_i i j e1 e2
    split at h2
    · rename_i hf
      obtain ⟨f1, f2⟩ := rgFit_ok hf.1
      obtain ⟨f3, f4⟩ := rgFit_ok hf.2
      refine ⟨i, j, ?_, ⟨f1, f2, f3, f4⟩, ?_⟩
      · rw [((fx1.mono ext2.same).look rel2 e1).int, (fx2.look rel2 e2).int]
      · exact h2 _ H2 G2 rel2 .refl (itok_rg i (j - i).toNat)
    · exact h2.elim
  · exact h2.elim)
def rgDown (a b : Int) : List D := (List.range (a - b).toNat).map fun i => .int (a + (i : Nat) * -1)
/-- range(a, b, -1) -/
def cRng3 (c c2 c3 : CE) : CI := fun ρ => (c ρ).bind fun p ρ1 => (c2 ρ1).bind fun q ρ2 => (c3 ρ2).bind fun r ρ3 => match look p ρ3, look q ρ3, look r ρ3 with
  | some (.int i), some (.int j), some (.int k) => if rgFit i = true ∧ rgFit j = true ∧ k = -1 then .ok (rgDown i j) ρ3 else .bad
  | _, _, _ => .bad
/-! enumerate -/
def iEnA (K : PySem.W.Frag) (ta : TA) : TI := fun σ H R => ta σ H fun vs H1 => (∃ a xs, vs = [.ref a] ∧ SqL K H1 a xs ∧ R (IteL K a) H1) ∨ ∃ a xs, vs = [.ref a] ∧ SqT K H1 a xs ∧ R (IteT K a) H1
theorem pi_enA {ta : TA} {tpos : Pos} {elts : List Expr} {kk : Nat} (hg : Gl X "enumerate") (hm : X.mg "enumerate" = none) (ha : PA X [e] ta) (hs : starEach [e] X.env = [(false, eval e X.env)] := by rfl) :
    PI X (.Tuple elts kk tpos) (.Call (.Name "enumerate" p) [e] [] pos) (iEnA X.K ta) := by
  refine ⟨fun pins s σ H R I h => ?_⟩
  refine Call_ (ld_blt I hg hm boot_enumerate (PyProof.Rows.callWith_type1 (thn (ha.run pos pins s σ H _ I h) fun us s1 ⟨vs, H1, I1, r1, q1⟩ => ?_) hs rfl))
  have fp2 : ∀ b ∈ [s1.heap.objs.size + 1, s1.heap.objs.size], FpOk X pins H1 b := fun b hb => by
    have e' : b = s1.heap.objs.size + 1 ∨ b = s1.heap.objs.size := by simpa using hb
    have hle : s1.heap.objs.size ≤ b := by
      rcases e' with z | z
      · rw [z]; exact Nat.le_add_right _ _
      · rw [z]; exact Nat.le_refl _
    exact I1.fpOk hle (I1.hok.fresh hle)
  rcases q1 with ⟨a, xs, ex, hq, q⟩ | ⟨a, xs, ex, hq, q⟩
  · subst ex
    cases r1 with
    | cons r rr =>
      cases rr
      cases r
      obtain ⟨its, rv, p', hz⟩ := I1.list hq
      refine call_enumerate_list p'.isList fun h' he hit hsz hk => wpAny_pyIter_enum he ?_
      have I2 : Inv X pins σ H1 { s1 with heap := h' } := I1.kept (t' := s1.toks) hk
      exact ⟨s1.heap.objs.size + 1, [s1.heap.objs.size + 1, s1.heap.objs.size], _, _, H1, rfl, I2, turn_enumL a (s1.heap.objs.size + 1) s1.heap.objs.size, ⟨⟨.none, he⟩, hit, Nat.succ_ne_self _⟩, fp2, q⟩
  · subst ex
    cases r1 with
    | cons r rr =>
      cases rr
      cases r
      obtain ⟨its, rv, p', hz⟩ := I1.tuple hq
      refine call_enumerate_tup p' fun h' he hit hsz hk => wpAny_pyIter_enum he ?_
      have I2 : Inv X pins σ H1 { s1 with heap := h' } := I1.kept (t' := s1.toks) hk
      exact ⟨s1.heap.objs.size + 1, [s1.heap.objs.size + 1, s1.heap.objs.size], _, _, H1, rfl, I2, turn_enumT a (s1.heap.objs.size + 1) s1.heap.objs.size, ⟨⟨.none, he⟩, hit, Nat.succ_ne_self _⟩, fp2, q⟩
def cEnum (c : CE) : CI := cFz c fun d => (seqOf d).map enumD
theorem si_enum {tpos : Pos} {elts : List Expr} {kk : Nat} (hg : Gl X "enumerate") (hm : X.mg "enumerate" = none) (h : SX X e c) (hs : starEach [e] X.env = [(false, eval e X.env)] := by rfl) :
    SI X (.Tuple elts kk tpos) (.Call (.Name "enumerate" p) [e] [] pos) (cEnum c) := fun W tk => PIimp (pi_enA hg hm (pa_cons (h W tk) pa_nil hs) hs) (by
  intro σ H Q h
  obtain ⟨L, ρ, G, B, rel, h0⟩ := fz_imp h
  refine ⟨L, ρ, G, B, rel, h0.mono ?_⟩
  rintro v H1 ⟨L, ρ2, G2, B, d, ds, e1, rel2, f2, h2⟩
  cases d <;> simp only [seqOf, Option.map_some, Option.map_none] at e1 <;> try (cases e1; done)
  · cases e1; cases f2 with
    | lst h1 h3 => exact .inl ⟨_, _, rfl, .inl (Same.rd rel2.sub h1), h2 _ H1 G2 rel2 .refl (itok_enum h1 h3)⟩
  · cases e1; cases f2 with
    | tup h1 h3 => exact .inr ⟨_, _, rfl, Same.tp rel2.sub (sqt h1), h2 _ H1 G2 rel2 .refl (itok_enumT (sqt h1) h3)⟩)
/-! zip -/
def cZip (c c2 : CE) : CI := fun ρ => (c ρ).bind fun p ρ1 => (c2 ρ1).bind fun q ρ2 => match frzA [p, q] ρ2 with
  | some ([.list a, .list b], ρ3) => .ok (zipD a b) ρ3
  | some ([.tuple a, .tuple b], ρ3) => .ok (zipD a b) ρ3
  | _ => .bad
def cRev (c : CE) : CI := cFz c fun d => (seqOf d).map List.reverse
end
end TN
namespace TN
open PySem PySem.Spec PyProof.Rows L2

/-! ### a list that a name owns changes -/
section
variable {K : PySem.W.Frag} {L : L2.St} {B G H : Hp} {σ : L2.St} {ρ : Rho} {d d' : D} {m : Md} {i : Nat} {a : Addr} {o : HO}
theorem Rel.mut (r : Rel K L B σ ρ G H) (hi : ρ[i]? = some (some (d, m))) (hm : m.isFz = false) (hv : σ[i]? = some (some (.ref a))) (c : Cont K G (upd H a o) a d') :
    Rel K L B σ (ρ.set i (some (d', m))) G (upd H a o) := by
  obtain ⟨v', h1, h2⟩ := r.slots i _ hi
  rw [hv] at h1; cases h1
  obtain ⟨a', e, hG, hB, _⟩ := h2.own hm
  cases e
  have hlt : i < ρ.length := (List.getElem?_eq_some_iff.mp hi).1
  refine ⟨fun b u q => ?_, fun b u q => ?_, by simpa using r.len, fun j p hp => ?_, fun j k p p' w hjk hp hp' hf hf' hw => ?_, fun j w hw => ?_⟩
  · rw [upd_ne (ne_of_none q hG)]; exact r.sub b u q
  · rw [upd_ne (ne_of_none q hB)]; exact r.base b u q
  · by_cases hj : j = i
    · subst hj
      rw [List.getElem?_set_self hlt] at hp; cases hp
      refine ⟨_, hv, ?_⟩
      cases m with
      | fz => cases hm
      | lz => cases hm
      | own => exact ⟨a, rfl, hG, hB, c⟩
      | lent => exact ⟨a, rfl, hG, hB, c⟩
    · rw [List.getElem?_set_ne (Ne.symm hj)] at hp
      obtain ⟨w, w1, w2⟩ := r.slots j p hp
      refine ⟨w, w1, w2.heap fun hf b o' eb hb => ?_⟩
      subst eb
      have : b ≠ a := fun z => by subst z; exact r.sep i j _ p _ (Ne.symm hj) hi hp hm hf hv w1
      rw [upd_ne this]; exact hb
  · have get : ∀ {j : Nat} {p : D × Md}, (ρ.set i (some (d', m)))[j]? = some (some p) → ∃ p0 : D × Md, ρ[j]? = some (some p0) ∧ p0.2 = p.2 := by
      intro j p hp
      by_cases hj : j = i
      · subst hj
        rw [List.getElem?_set_self hlt] at hp; cases hp
        exact ⟨_, hi, rfl⟩
      · rw [List.getElem?_set_ne (Ne.symm hj)] at hp
        exact ⟨p, hp, rfl⟩
    obtain ⟨p0, q0, e0⟩ := get hp
    obtain ⟨p1, q1, e1⟩ := get hp'
    exact r.sep j k p0 p1 w hjk q0 q1 (by rw [e0]; exact hf) (by rw [e1]; exact hf') hw
  · obtain ⟨w1, d1, m1, w2, w3⟩ := r.lent j w hw
    by_cases hj : j = i
    · subst hj
      rw [hi] at w2; cases w2
      exact ⟨w1, d', m, List.getElem?_set_self hlt, w3⟩
    · exact ⟨w1, d1, m1, by rw [List.getElem?_set_ne (Ne.symm hj)]; exact w2, w3⟩
end
/-- the list or dict that name i owns or was lent -/
def ownAt (i : Nat) (ρ : Rho) : Option (D × Md) := match ρ[i]? with
  | some (some (d, .own)) => some (d, .own)
  | some (some (d, .lent)) => some (d, .lent)
  | _ => none
theorem ownAt_ok {i : Nat} {ρ : Rho} {p : D × Md} (h : ownAt i ρ = some p) : ρ[i]? = some (some p) ∧ p.2.isFz = false := by
  unfold ownAt at h
  split at h
  · rename_i e; cases h; exact ⟨e, rfl⟩
  · rename_i e; cases h; exact ⟨e, rfl⟩
  · cases h
/-- what a method that changes its list does: the new content, what it gives -/
def MutOk (K : PySem.W.Frag) (r : V → List V → Hp → VK → Prop) (f : D → List D → Option (D × D)) : Prop := ∀ (G H : Hp) (a : Addr) (d : D) (xs : List V) (ds : List D) (d' y : D) (Q : VK), Same G H → G a = none → Cont K G H a d → FzA K G xs ds → f d ds = some (d', y) →
  (∀ v o, Cont K G (upd H a o) a d' → Fz K G v y → Q v (upd H a o)) → r (.ref a) xs H Q
/-- x.name(..), the object owned -/
def cMut (i : Nat) (f : D → List D → Option (D × D)) (ca : CA) : CE := fun ρ => (ca ρ).bind fun ps ρ1 => match frzA ps ρ1 with
  | some (ds, ρ2) => match ownAt i ρ2 with
    | some (d, m) => match f d ds with
      | some (d', y) => .ok (.val y) (ρ2.set i (some (d', m)))
      | none => .bad
    | none => .bad
  | none => .bad
section
variable {X : Cx} {e : Expr} {es : List Expr} {ca : CA} {p apos cpos : Pos} {T id : String} {x name : Str} {r : V → List V → Hp → VK → Prop} {f : D → List D → Option (D × D)} {W : WX}
/-- the receiver's value at the method's call -/
theorem mut_step {L : L2.St} {B : Hp} {σ : L2.St} {G H : Hp} {ρ : Rho} {i : Nat} {ds : List D} {xs : List V} {v : V} {Q : VK} (hr : MutOk X.K r f) (hv : σ[i]? = some (some v)) (rel : Rel X.K L B σ ρ G H) (fz : FzA X.K G xs ds)
    (h : GotP X L W σ G B (match ownAt i ρ with
      | some (d, m) => match f d ds with
        | some (d', y) => .ok (.val y) (ρ.set i (some (d', m)))
        | none => .bad
      | none => .bad) Q) : r v xs H Q := by
  cases e1 : ownAt i ρ with
  | none => simp only [e1] at h; exact h.elim
  | some p =>
    obtain ⟨d, m⟩ := p
    simp only [e1] at h
    obtain ⟨o1, o2⟩ := ownAt_ok e1
    cases e2 : f d ds with
    | none => simp only [e2] at h; exact h.elim
    | some w =>
      obtain ⟨d', y⟩ := w
      simp only [e2] at h
      obtain ⟨v', h1, h2⟩ := rel.slots i _ o1
      rw [hv] at h1; cases h1
      obtain ⟨a, rfl, hG, hB, c⟩ := h2.own o2
      exact hr G H a d xs ds d' y Q rel.sub hG c fz e2 fun v o c' fy => h v (upd H a o) G (rel.mut o1 o2 hv c') .refl fy
theorem tyV_of {K : PySem.W.Frag} {G H : Hp} {v : V} {p : D × Md} {B : Hp} (s : SlotOk K G H B v p) (sub : Same G H) (hl : ∃ ds, p.1 = .list ds) : tyV K "list" v H := by
  obtain ⟨ds, hl⟩ := hl
  have := s.vw
  rw [hl] at this
  obtain ⟨a, xs, rfl, h1, h2⟩ := this.lst sub
  exact .inl ⟨rfl, xs, .inl h1⟩
/-- the receiver is a list when the arguments are asked for: looked at there -/
def cMutL (i : Nat) (f : D → List D → Option (D × D)) (ca : CA) : CE := fun ρ => match ownAt i ρ with
  | some (.list _, _) => cMut i f ca ρ
  | _ => .bad
theorem sx_mutL (i : Nat) (pa : PlainAttrs "list") (slot : PySem.Slot "list" name id) (hty : typeOf (.builtin id) = pure (.type "method_descriptor")) (hm : MtR X id r) (hr : MutOk X.K r f) (ha : SA X (e :: es) ca)
    (hN : X.N[i]? = some x := by rfl) (hv : Vis X.env.scope x := by first | exact Or.inl rfl | exact Or.inr (Or.inl rfl) | exact Or.inr (Or.inr rfl)) (hd : (x == ("__debug__" : Str)) = false := by decide) (hcd : (x == ("__classdict__" : Str)) = false := by decide)
    (hbase : attributeBase (.Name x p) name X.env (eval (.Name x p) X.env) = eval (.Name x p) X.env := by rfl)
    (hfew : ((backTo cpos (starEach (e :: es) X.env)).all (fun x => !x.1) && (backToKw cpos (keywordEach [] X.env)).all (fun x => x.1.isSome)
      && decide ((e :: es).length + ([] : List Keyword).length + (if ([] : List Keyword).isEmpty then 0 else 1) < 30)) = true := by rfl)
    (hline : (apos.endLine == cpos.line) = true := by rfl) (hs : starEach (e :: es) X.env = (false, eval e X.env) :: starEach es X.env := by rfl) (hplain : (backTo cpos (starEach es X.env)).any (·.1) = false := by rfl) :
    SX X (.Call (.Attribute (.Name x p) name apos) (e :: es) [] cpos) (cMutL i f ca) := fun W tk =>
  PEimp (pe_bm pa slot hty hm (pe_var hN hv hd hcd) (ha W tk) hbase hfew hline hs hplain) (by
  rintro σ H Q ⟨L, ρ, G, B, rel, h⟩
  unfold cMutL at h
  split at h
  · rename_i ds m e1
    obtain ⟨o1, o2⟩ := ownAt_ok e1
    obtain ⟨v, h1, h2⟩ := rel.slots i _ o1
    refine ⟨v, h1, tyV_of h2 rel.sub ⟨_, rfl⟩, L, ρ, G, B, rel, (Got.bindA h).mono ?_⟩
    rintro xs H1 ⟨ps, ρ1, G1, _, rel1, ext1, fx1, h3⟩
    cases e2 : frzA ps ρ1 with
    | none => simp only [e2] at h3; exact h3.elim
    | some w =>
      obtain ⟨ds2, ρ2⟩ := w
      simp only [e2] at h3
      obtain ⟨G2, r2, x2, f2⟩ := fx1.frz rel1 e2
      exact mut_step (W := W) hr h1 r2 f2 (Got.shift x2 h3)
  · exact h.elim)
/-! append, extend, pop -/
theorem Cont.lstInv {K : PySem.W.Frag} {G H : Hp} {a : Addr} {ds : List D} (c : Cont K G H a (.list ds)) : ∃ xs, H a = some (.lst xs) ∧ FzA K G xs ds := by
  cases c with
  | lst h x => exact ⟨_, h, x⟩
def fAppend : D → List D → Option (D × D)
  | .list a, [x] => if a.length < 16777216 then some (.list (a ++ [x]), .none) else none
  | _, _ => none
theorem append_ok (K : PySem.W.Frag) : MutOk K rAppend fAppend := by
  intro G H a d xs ds d' y Q sub hG c fz e q
  unfold fAppend at e
  split at e
  · split at e
    · rename_i hl
      cases e
      obtain ⟨ys, h1, h2⟩ := c.lstInv
      cases fz with
      | cons f1 f2 =>
        cases f2
        exact ⟨a, ys, _, rfl, rfl, h1, by rw [h2.length, sizeLine_eq]; exact hl, q _ _ (.lst upd_same (h2.append (.cons f1 .nil))) .non⟩
    · cases e
  · cases e
theorem ext_tup (l : Addr) (items : Array Value) (n : Nat) (b : Addr) (items2 : Array Value) (n2 : Nat) (dct : Option Addr) (sl : Array (Option Value)) (hs0 : ¬(!items.isEmpty && Builtin.List.listTooLong (items.size + items2.size)) = true) (hs1 : items.size ≤ sizeLine) (hs2 : items.size + items2.size ≤ sizeLine + 1) :
    Meets (Builtin.«list.extend» ⟨[.ref l, .ref b], []⟩) (fun _ R s => s.heap.get? l = some { cls := .type "list", dict := none, data := .seq items n, slots := #[] } ∧ s.heap.get? b = some { cls := .type "tuple", dict := dct, data := .seq items2 n2, slots := sl } ∧ R (.ok (.ret Value.none)) { s with heap := s.heap.update l (Obj.mapSeq fun x => x ++ items2), toks := s.toks }) :=
  .of_wp fun prog w A R s h => by
    open AutoSeq1 in
    obtain ⟨hp, g, d, tk, os⟩ := s; obtain ⟨hl, hb, h⟩ := h; have f1 := AutoSeq1.idx_int; have f2 := AutoSeq1.sub_tuple_tuple; have f3 := AutoSeq1.sub_list_list; have f4 := AutoSeq1.sub_tuple_list; have f5 := AutoSeq1.sub_list_tuple;
    have hz' : (items ++ items2).size ≤ sizeLine + 1 := by rw [Array.size_append]; exact hs2
    wp_walk using (wpAny_updateSeq hl rfl (hz := hs1) (_hz' := hz')), wpAny_loadPart' hl, wpAny_loadPart' hb; exact ⟨_, rfl, h⟩
def rExtendA (K : PySem.W.Frag) : V → List V → Hp → VK → Prop := fun x vs H Q => ∃ l b xs zs, x = .ref l ∧ vs = [.ref b] ∧ H l = some (.lst xs) ∧ ((Rd H b (.lst zs)) ∨ SqT K H b zs) ∧ xs.length + zs.length ≤ sizeLine ∧ Q .non (upd H l (.lst (xs ++ zs)))
theorem mt_extendA : MtR X "list.extend" (rExtendA X.K) := by
  intro pins s σ H x vs v us Q I rx rv h
  obtain ⟨l, b, xs, zs, rfl, rfl, hH, hB, hz, q⟩ := h
  cases rx
  obtain ⟨u, rfl, ru⟩ := rv.one
  cases ru
  obtain ⟨z, its, n, r, hl, e⟩ := I.lstM hH
  rcases hB with hB | hB
  · obtain ⟨z2, its2, n2, r2, hl2, e2⟩ := lstR I hB
    have hsz : its.toArray.size + its2.toArray.size ≤ sizeLine := by rw [List.size_toArray, List.size_toArray]; omega
    have hlong : ¬ (!its.toArray.isEmpty && Builtin.List.listTooLong (its.toArray.size + its2.toArray.size)) = true := by
      rw [notLongL hsz, Bool.and_false]
      exact Bool.false_ne_true
    refine call_meets PySem.F.slot_list_extend ⟨_, e, rfl⟩ PySem.F.entry_list_extend (PySem.F.args_list_extend_2 _ _)
      (AutoSeq1.list_extend_list_list_0 l its.toArray n b its2.toArray n2 hlong (by rw [List.size_toArray]; omega) (by omega)) ⟨e, e2, ?_⟩
    refine ⟨.non, _, I.lset (its' := its ++ its2) hH e (by simp) (r.append r2) ?_, rfl, q⟩
    rw [List.length_append]
    omega
  · obtain ⟨its2, r2, ⟨⟨c2, dct, dt, sl⟩, e2, hc2, n2, hd2⟩, z2⟩ := I.tuple hB
    replace hc2 : c2 = .type "tuple" := hc2
    replace hd2 : dt = .seq its2.toArray n2 := hd2
    subst hc2 hd2
    have hl2 := r2.length
    have hsz : its.toArray.size + its2.toArray.size ≤ sizeLine := by rw [List.size_toArray, List.size_toArray]; omega
    have hlong : ¬ (!its.toArray.isEmpty && Builtin.List.listTooLong (its.toArray.size + its2.toArray.size)) = true := by
      rw [notLongL hsz, Bool.and_false]
      exact Bool.false_ne_true
    refine call_meets PySem.F.slot_list_extend ⟨_, e, rfl⟩ PySem.F.entry_list_extend (PySem.F.args_list_extend_2 _ _)
      (ext_tup l its.toArray n b its2.toArray n2 dct sl hlong (by rw [List.size_toArray]; omega) (by omega)) ⟨e, e2, ?_⟩
    refine ⟨.non, _, I.lset (its' := its ++ its2) hH e (by simp) (r.append r2) ?_, rfl, q⟩
    rw [List.length_append]
    omega
def fExtend : D → List D → Option (D × D)
  | .list a, [.list b] => if a.length + b.length ≤ 16777216 then some (.list (a ++ b), .none) else none
  | .list a, [.tuple b] => if a.length + b.length ≤ 16777216 then some (.list (a ++ b), .none) else none
  | _, _ => none
theorem extend_ok (K : PySem.W.Frag) : MutOk K (rExtendA K) fExtend := by
  intro G H a d xs ds d' y Q sub hG c fz e q
  unfold fExtend at e
  split at e
  · split at e
    · rename_i hl
      cases e
      obtain ⟨ys, h1, h2⟩ := c.lstInv
      cases fz with
      | cons f1 f2 =>
        cases f2
        cases f1 with
        | lst g1 g2 => exact ⟨a, _, ys, _, rfl, rfl, h1, .inl (Same.rd sub g1), by rw [h2.length, g2.length, sizeLine_eq]; exact hl, q _ _ (.lst upd_same (h2.append g2)) .non⟩
    · cases e
  · split at e
    · rename_i hl
      cases e
      obtain ⟨ys, h1, h2⟩ := c.lstInv
      cases fz with
      | cons f1 f2 =>
        cases f2
        cases f1 with
        | tup g1 g2 => exact ⟨a, _, ys, _, rfl, rfl, h1, .inr (Same.tp sub (sqt g1)), by rw [h2.length, g2.length, sizeLine_eq]; exact hl, q _ _ (.lst upd_same (h2.append g2)) .non⟩
    · cases e
  · cases e
end
end TN
namespace TN
open PySem PySem.Spec PyProof.Rows L2

/-! ### x[k] = v -/
def PutOk (K : PySem.W.Frag) (t : TSet) (f : D → D → D → Option D) : Prop := ∀ (G H : Hp) (a : Addr) (c k d c' : D) (kv dv : V) (Q : Hp → Prop), Same G H → G a = none → Cont K G H a c → Fz K G kv k → Fz K G dv d → f c k d = some c' →
  (∀ o, Cont K G (upd H a o) a c' → Q (upd H a o)) → t (.ref a) kv dv H Q
/-- the place's own list, the key, the value -/
def gPut (i : Nat) (f : D → D → D → Option D) (ck : CE) : D → Rho → Option Rho := fun d ρ => match ownAt i ρ with
  | none => none
  | some _ => match cFz ck some ρ with
    | .ok k ρ2 => match ownAt i ρ2 with
      | some (c, m) => match f c k d with
        | some c' => some (ρ2.set i (some (c', m)))
        | none => none
      | none => none
    | _ => none
section
variable {X : Cx} {x : Str} {k : Expr} {ck c : CE} {p pos : Pos} {t : TSet} {f : D → D → D → Option D} {W : WX}
theorem fz_run {L : L2.St} {B : Hp} {σ : L2.St} {G H : Hp} {ρ ρ2 : Rho} {d : D} (rel : Rel X.K L B σ ρ G H) (h : cFz c some ρ = .ok d ρ2) :
    tX X W c σ H (fun v H1 => ∃ G2, Rel X.K L B σ ρ2 G2 H1 ∧ Ext B G G2 ∧ Fz X.K G2 v d) := by
  refine ⟨L, ρ, G, B, rel, ?_⟩
  unfold cFz at h
  cases q : c ρ with
  | bad => rw [q] at h; cases h
  | exc y ρ1 => rw [q] at h; cases h
  | ok a ρ1 =>
    rw [q] at h
    intro v H1 G1 rel1 ext1 ok
    obtain ⟨G2, r2, x2, fx2⟩ := ok.fix rel1
    simp only [R.bind] at h
    cases e : frz a ρ1 with
    | none => simp only [e] at h; cases h
    | some w =>
      obtain ⟨d', ρ'⟩ := w
      simp only [e, R.ok.injEq] at h
      obtain ⟨rfl, rfl⟩ := h
      obtain ⟨G3, r3, x3, f3⟩ := fx2.frz r2 e
      exact ⟨G3, r3, ext1.trans (x2.trans x3), f3⟩
theorem own_val {K : PySem.W.Frag} {L : L2.St} {B : Hp} {σ : L2.St} {G H : Hp} {ρ : Rho} {i : Nat} {q : D × Md} (rel : Rel K L B σ ρ G H) (h : ownAt i ρ = some q) : ∃ v, σ[i]? = some (some v) := by
  obtain ⟨o1, _⟩ := ownAt_ok h
  obtain ⟨v, h1, _⟩ := rel.slots i _ o1
  exact ⟨v, h1⟩
/-- the walk up to the store, from a frozen value -/
theorem put_step {L : L2.St} {B : Hp} {σ : L2.St} {G H : Hp} {ρ : Rho} {i : Nat} {d key : D} {v kv dv : V} {Q : Hp → Prop} (hp : PutOk X.K t f) (hv : σ[i]? = some (some v)) (rel : Rel X.K L B σ ρ G H) (fk : Fz X.K G kv key) (fd : Fz X.K G dv d) {c c' : D} {m : Md}
    (e1 : ownAt i ρ = some (c, m)) (e2 : f c key d = some c') (q : ∀ H', Rel X.K L B σ (ρ.set i (some (c', m))) G H' → Q H') : t v kv dv H Q := by
  obtain ⟨o1, o2⟩ := ownAt_ok e1
  obtain ⟨v', h1, h2⟩ := rel.slots i _ o1
  rw [hv] at h1; cases h1
  obtain ⟨a, rfl, hG, hB, ct⟩ := h2.own o2
  exact hp G H a c key d c' kv dv Q rel.sub hG ct fk fd e2 fun o c2 => q _ (rel.mut o1 o2 hv c2)
theorem sg_put (i : Nat) (ht : PSet X t) (hp : PutOk X.K t f) (hk : SX X k ck) (hN : X.N[i]? = some x := by rfl) (hv : Vis X.env.scope x := by first | exact Or.inl rfl | exact Or.inr (Or.inl rfl) | exact Or.inr (Or.inr rfl)) (hd : (x == ("__debug__" : Str)) = false := by decide) (hcd : (x == ("__classdict__" : Str)) = false := by decide)
    (ha : ∀ v, assign (.Subscript (.Name x p) k pos) X.env v = (do
      let ov ← holding [v] (eval (.Name x p) X.env)
      let iv ← holding [v, ov] (eval k X.env)
      standAt pos
      holding [v, ov, iv] (setItem ov iv v)
      release [v, ov, iv] []) := by intro _; rfl) : SG X (.Subscript (.Name x p) k pos) [] (gPut i f ck) := PGimp (pg_sub (pe_var hN hv hd hcd) (hk Wf takes0) ht ha) (by
  rintro v σ H Q ⟨L, ρ, G, B, d, rel, fz, h⟩
  unfold gPut at h
  cases e0 : ownAt i ρ with
  | none => simp only [e0] at h
  | some o0 =>
    simp only [e0] at h
    obtain ⟨w, hw⟩ := own_val rel e0
    cases e1 : cFz ck some ρ with
    | bad => simp only [e1] at h
    | exc y ρ1 => simp only [e1] at h
    | ok key ρ2 =>
      simp only [e1] at h
      cases e3 : ownAt i ρ2 with
      | none => simp only [e3] at h
      | some cm =>
        obtain ⟨c, m⟩ := cm
        simp only [e3] at h
        cases e4 : f c key d with
        | none => simp only [e4] at h
        | some c' =>
          simp only [e4] at h
          refine ⟨w, hw, ?_⟩
          obtain ⟨L', ρ', G', B', rl, gg⟩ := fz_run (W := Wf) rel e1
          refine ⟨L', ρ', G', B', rl, gg.mono ?_⟩
          rintro kv H2 ⟨G2, r2, x2, fk⟩
          exact put_step hp hw r2 fk (fz.mono x2.same) e3 e4 fun H' r3 => h σ H' G2 r3 x2 ⟨rfl, fun _ _ => rfl⟩)
/-- x op= e of ints -/
def cAugI (i : Nat) (g : Int → Int → Int) (c : CE) : CS := fun ρ => match look (.slot i) ρ with
  | some (.int a) => (c ρ).toS fun p ρ1 => match look p ρ1 with
    | some (.int b) => match store i (.val (.int (g a b))) ρ1 with
      | some ρ2 => .nx ρ2
      | none => .bad
    | _ => .bad
  | _ => .bad
theorem ss_augI (i : Nat) {op : Operator} {g : Int → Int → Int} {e : Expr} {pos' : Pos} (hN : X.N.Nodup) (ho : PIp X op (ipI g)) (he : SX X e c) (hi : X.N[i]? = some x := by rfl) (hx : Loc X.env.scope x := by first | exact Or.inl rfl | exact Or.inr rfl) (hf : X.fn x = true ∨ X.env.scope.names.lookup x = some .local := by first | exact .inl rfl | exact .inr rfl | assumption) :
    SS X (.AugAssign (.Name x pos') op e pos) (cAugI i g c) := fun W tk _ => PSimp (ps_aug hN hi hx (he W tk) ho hf) (by
  rintro D σ H ⟨L, ρ, G, B, rel, h⟩
  unfold cAugI at h
  split at h
  · rename_i a e1
    have sl : ∃ w, σ[i]? = some (some w) ∧ Vw X.K G H w (.int a) := by
      have e1 : (match ρ[i]? with | some (some (d, _)) => some d | _ => none) = some (PyData.int a) := e1
      split at e1
      · rename_i d m q
        cases e1
        obtain ⟨w, w1, w2⟩ := rel.slots i _ q
        exact ⟨w, w1, w2.vw⟩
      · cases e1
    obtain ⟨w, w1, w2⟩ := sl
    rw [w2.int] at w1
    refine ⟨_, w1, L, ρ, G, B, rel, (GotS.expr h).mono ?_⟩
    rintro y H1 ⟨q, ρ1, G1, _, rel1, ext1, ok, h1⟩
    obtain ⟨G2, r2, x2, fx2⟩ := ok.fix rel1
    split at h1
    · rename_i b e2
      refine ⟨a, b, rfl, (fx2.look r2 e2).int, ?_⟩
      split at h1
      · rename_i ρ2 e3
        obtain ⟨G3, r3, x3⟩ := store_ok' (v := .int (g a b)) (G := G2) (p := .val (.int (g a b))) r2 (.int _) e3
        exact h1 _ H1 G3 r3 (x2.trans x3)
      · exact h1.elim
    · exact h1.elim
  · exact h.elim)
/-! ### xs[k] += e -/
def rGetL (K : PySem.W.Frag) : V → V → Hp → VK → Prop := fun o i H Q => ∃ a xs k v, o = .ref a ∧ i = .int k ∧ SqL K H a xs ∧ atI xs k = some v ∧ Q v H
theorem get_list : PGet X (rGetL X.K) := by
  intro pins s σ H o i ov iv Q I ro ri h
  obtain ⟨a, xs, k, v, rfl, rfl, hs, hv, q⟩ := h
  cases ro
  obtain ⟨t, rfl⟩ := ri
  obtain ⟨its, r, pl, hz⟩ := I.list hs
  obtain ⟨j, h1, h2, h3, h4, h5⟩ := atI_get hv
  obtain ⟨w, ew, rw'⟩ := r.get h2
  have hl := r.length
  have hn := line63
  have fin : EP X pins σ Q w s := ⟨v, H, I, rw', q⟩
  by_cases h0 : 0 ≤ k
  · have hj : k.toNat = j := by
      rw [seqIndex_of h0 h5] at h1
      exact Option.some.inj h1
    exact wpAny_getItem_list pl.isList h0 (by omega) (by rw [hj]; simpa using ew) fin
  · have hj : (k + (its.toArray.size : Int)).toNat = j := by
      rw [seqIndex_neg (by omega) h4] at h1
      rw [List.size_toArray, ← hl]
      exact Option.some.inj h1
    exact wpAny_getItem_list_neg pl.isList (by omega) (by rw [List.size_toArray] <;> omega) (by omega) (by rw [hj]; simpa using ew) fin
def cAugS (i : Nat) (f : D → D → D → Option D) (g : Int → Int → Int) (ck ce : CE) : CS := fun ρ => match ownAt i ρ with
  | none => .bad
  | some _ => (ck ρ).toS fun p ρ1 => match look p ρ1, ownAt i ρ1 with
    | some (.int k), some (.list a, _) => match atI a k with
      | some (.int n) => (ce ρ1).toS fun q ρ2 => match look q ρ2, ownAt i ρ2 with
        | some (.int b), some (c, m) => match f c (.int k) (.int (g n b)) with
          | some c' => .nx (ρ2.set i (some (c', m)))
          | none => .bad
        | _, _ => .bad
      | _ => .bad
    | _, _ => .bad
theorem ss_augS (i : Nat) {op : Operator} {g : Int → Int → Int} {e : Expr} {ce : CE} {tpos : Pos} (ht : PSet X t) (hp : PutOk X.K t f) (ho : PIp X op (ipI g)) (hk : SX X k ck) (he : SX X e ce) (hN : X.N[i]? = some x := by rfl) (hv : Vis X.env.scope x := by first | exact Or.inl rfl | exact Or.inr (Or.inl rfl) | exact Or.inr (Or.inr rfl)) (hd : (x == ("__debug__" : Str)) = false := by decide) (hcd : (x == ("__classdict__" : Str)) = false := by decide)
    (ha : ∀ ov iv new, augStore k ov iv new = (do holding [new, ov, iv] (setItem ov iv new); release [new, ov, iv] []; pure .next) := by intros; rfl) : SS X (.AugAssign (.Subscript (.Name x p) k tpos) op e pos) (cAugS i f g ck ce) := fun W tk _ =>
  PSimp (ps_augS (op := op) (pe_var hN hv hd hcd) (hk W tk) get_list (he W tk) ho ht ha) (by
  rintro D σ H ⟨L, ρ, G, B, rel, h⟩
  unfold cAugS at h
  cases e0 : ownAt i ρ with
  | none => simp only [e0] at h; exact h.elim
  | some o0 =>
    simp only [e0] at h
    obtain ⟨w, hw⟩ := own_val rel e0
    refine ⟨w, hw, L, ρ, G, B, rel, (GotS.expr h).mono ?_⟩
    rintro kv H1 ⟨q, ρ1, G1, _, rel1, ext1, ok, h1⟩
    obtain ⟨G2, r2, x2, fx2⟩ := ok.fix rel1
    split at h1
    · rename_i kk a m1 e1 e2
      split at h1
      · rename_i n e3
        obtain ⟨o1, o2⟩ := ownAt_ok e2
        obtain ⟨v', h3, h4⟩ := r2.slots i _ o1
        rw [hw] at h3; cases h3
        obtain ⟨ad, rfl, hG, hB, ct⟩ := h4.own o2
        obtain ⟨xs, h5, h6⟩ := ct.lstInv
        obtain ⟨u, hu, fu⟩ := h6.atI e3
        cases fu
        refine ⟨ad, xs, kk, _, rfl, (fx2.look r2 e1).int, .inl (.inl h5), hu, L, ρ1, G2, B, r2, (GotS.expr (GotS.shift x2 h1)).mono ?_⟩
        rintro y H3 ⟨q', ρ3, G3, _, rel3, ext3, ok3, h7⟩
        obtain ⟨G4, r4, x4, fx4⟩ := ok3.fix rel3
        split at h7
        · rename_i b c m e4 e5
          split at h7
          · rename_i c' e6
            refine ⟨n, b, rfl, (fx4.look r4 e4).int, ?_⟩
            rw [(fx2.look r2 e1).int]
            exact put_step hp hw r4 (.int kk) (.int (g n b)) e5 e6 fun H' r5 => h7 σ H' G4 r5 x4
          · exact h7.elim
        · exact h7.elim
      · exact h1.elim
    · exact h1.elim)
/-! lists -/
def putL : D → D → D → Option D
  | .list a, .int k, d => match ixN a.length k with
    | some j => some (.list (a.set j d))
    | none => none
  | _, _, _ => none
theorem putL_ok (K : PySem.W.Frag) : PutOk K rSetL putL := by
  intro G H a c k d c' kv dv Q sub hG ct fk fd e q
  unfold putL at e
  split at e
  · split at e
    · rename_i j hj
      cases e
      obtain ⟨xs, h1, h2⟩ := ct.lstInv
      cases fk
      exact ⟨a, xs, _, j, rfl, rfl, h1, by rw [h2.length]; exact hj, q _ (.lst upd_same (h2.set j fd))⟩
    · cases e
  · cases e
/-! dicts -/
theorem PSet_or {X : Cx} {t t' : TSet} (h : PSet X t) (h' : PSet X t') : PSet X (fun o i v H Q => t o i v H Q ∨ t' o i v H Q) := by
  intro pins s σ H o i v ov iv u Q I ro ri rv q
  rcases q with q | q
  · exact h pins s σ H o i v ov iv u Q I ro ri rv q
  · exact h' pins s σ H o i v ov iv u Q I ro ri rv q
def putA : D → D → D → Option D
  | .dict es, k, d => (dPut es k d).map .dict
  | c, k, d => putL c k d
def rSetA : TSet := fun o i v H Q => rSetL o i v H Q ∨ (rSetD o i v H Q ∨ rSetX o i v H Q)
theorem set_any {X : Cx} (hu : X.A.units + 65 < cLine) : PSet X rSetA := PSet_or set_list (PSet_or (set_dict (by omega)) (set_dictX (by omega)))
theorem putA_ok (K : PySem.W.Frag) : PutOk K rSetA putA := by
  intro G H a c k d c' kv dv Q sub hG ct fk fd e q
  cases c
  case dict es =>
    have e : (dPut es k d).map PyData.dict = some c' := e
    cases hp : dPut es k d with
    | none => rw [hp] at e; cases e
    | some es2 =>
      rw [hp] at e
      cases e
      cases ct with
      | dK e1 f =>
        rename_i kvs
        unfold dPut at hp
        split at hp
        · exact f.nomark.elim
        · cases hk : ckOf k with
          | none => rw [hk] at hp; cases hp
          | some key =>
            rw [hk] at hp
            simp only at hp
            split at hp
            · rename_i hl
              cases hp
              exact .inr (.inl ⟨a, _, rfl, .inl ⟨kvs, key, e1, fk.key hk, by rw [f.length, sizeLine_eq]; exact hl, rfl⟩, q _ (.dK upd_same (f.put fd))⟩)
            · cases hp
      | dT e1 f =>
        rename_i kvs es'
        unfold dPut at hp
        simp only at hp
        cases hk : tkOf k with
        | none => rw [hk] at hp; cases hp
        | some key =>
          rw [hk] at hp
          simp only at hp
          split at hp
          · rename_i hl
            cases hp
            obtain ⟨b, rfl, hb⟩ := fk.tkey hk
            exact .inr (.inr ⟨a, _, rfl, ⟨kvs, key, b, e1, fun r hr => (f.kt r hr).mono sub, rfl, hb.mono sub, tkOf_ints hk, by rw [f.length, sizeLine_eq]; exact hl, rfl⟩, q _ (.dT upd_same (f.put (tkOf_ints hk) hb fd))⟩)
          · cases hp
  all_goals exact .inl (putL_ok K G H a _ k d c' kv dv Q sub hG ct fk fd e q)
/-! a, b = x, y -/
def cPar (i j : Nat) (a b : CE) : CS := fun ρ => match cCons a (cCons b cNil) ρ with
  | .ok ps ρ1 => match frzA ps ρ1 with
    | some ([d, e], ρ2) => match store i (.val d) ρ2 with
      | some ρ3 => match store j (.val e) ρ3 with
        | some ρ4 => .nx ρ4
        | none => .bad
      | none => .bad
    | _ => .bad
  | .exc x ρ1 => .exc x ρ1
  | .bad => .bad
end
end TN
namespace TN
open PySem PySem.Spec PyProof.Rows L2

/-! ### methods that change nothing -/
def MtOk (K : PySem.W.Frag) (T : String) (r : V → List V → Hp → VK → Prop) (f : D → List D → Option Pl) : Prop := ∀ (G H : Hp) (x : V) (d : D) (xs : List V) (ds : List D) (p : Pl) (Q : VK), Same G H → Vw K G H x d → VwA K G H xs ds → f d ds = some p →
  (∀ v H', Post K G H v H' p → Q v H') → r x xs H Q
def tyOk (T : String) (d : D) : Bool := (match d with | .list _ => T == "list" | .str _ => T == "str" | .int _ => T == "int" | _ => false)
def cMt (T : String) (f : D → List D → Option Pl) (co : CE) (ca : CA) : CE := fun ρ => (co ρ).bind fun p ρ1 => match look p ρ1 with
  | some d0 => if tyOk T d0 = true then (ca ρ1).bind fun ps ρ2 => match look p ρ2, lookA ps ρ2 with
    | some d, some ds => .ofOpt (f d ds) ρ2
    | _, _ => .bad
    else .bad
  | none => .bad
section
variable {X : Cx} {o e : Expr} {es : List Expr} {co : CE} {ca : CA} {p apos cpos : Pos} {T id : String} {name : Str} {r : V → List V → Hp → VK → Prop} {f : D → List D → Option Pl} {W : WX}
/-! list.index, list.count -/
/-! xs[::-1] -/
end
end TN
namespace TN
open PySem PySem.Spec PyProof.Rows L2

/-! ### defs by their meanings -/
structure Callee (P : Program) (w : World) (K : PySem.W.Frag) (mg : Str → Option Value) (base : Heap) (k : Nat) (x : Str) (n : Nat) (M : FM) : Prop where
  ex : ∃ (f : Addr) (fd : FuncData) (pn : List Str), FnOk P w K mg base (L2.CX P w) k f fd pn (spF K mg n M) ∧ mg x = some (.ref f) ∧ PySem.W.keepIn K (.ref f) = true ∧ Binds K fd pn []
theorem Callee.up {P : Program} {w : World} {K : PySem.W.Frag} {mg : Str → Option Value} {base : Heap} {k : Nat} {x : Str} {n : Nat} {M : FM} (c : Callee P w K mg base k x n M) {j : Nat} (h : k ≤ j) : Callee P w K mg base j x n M := by
  obtain ⟨f, fd, pn, h1, h2, h3, h4⟩ := c.ex
  exact ⟨f, fd, pn, h1.mono h, h2, h3, h4⟩
section
variable {X : Cx} {k n : Nat} {M : FM} {x : Str} {p pos : Pos} {e : Expr} {es : List Expr} {cr : CA}
theorem sx_callC (C : Callee X.prog X.w X.K X.mg X.base k x n M) (hr : Room k X.A) (hg : Gl X x) (hl : LenA cr n) (ha : SA X (e :: es) cr)
    (hdb : (x == ("__debug__" : Str)) = false := by decide) (he : starEach (e :: es) X.env = (false, eval e X.env) :: starEach es X.env := by rfl) (hpl : (backTo pos (starEach es X.env)).any (·.1) = false := by rfl) :
    SX X (.Call (.Name x p) (e :: es) [] pos) (cCall M cr) := by
  obtain ⟨f, fd, pn, h1, h2, h3, h4⟩ := C.ex
  exact sx_call h1 hr hg h2 h3 h4 hl ha hdb he hpl
theorem u64 (hr : Room k X.A) : X.A.units + 64 < cLine := hr.units
end
/-- a def's promise as a callee -/
theorem calleeOf {P : Program} {w : World} {K : PySem.W.Frag} {mg : Str → Option Value} {base : Heap} {x qual : Str} {params : Arguments} {body : List Stmt} {scope : Scope} {f : Addr} {fd : FuncData} {k : Nat} {N ps : List Str} {c : CS}
    (F : FunD K x qual params body scope [] [] f fd) (S : FnScope N ps scope) (hm : mg x = some (.ref f))
    (hb : ∀ (kV doc pm : Value) (an : Option Addr) (cdv ct : Value) (us : List Value), us.length = ps.length → bindArgs (PySem.W.fnOf x qual params body scope .none kV doc pm an cdv ct) ⟨us, []⟩ = pure (ps.zip us))
    (h : ∀ (cdv : Value) (A : Around) (outer : List Env) (s : Shared) (H : Hp) (E : XK), Room k (A.deeper (envOfC qual scope s.heap.objs.size f cdv)) → SSs (cxOf (L2.CX P w) P w K mg base N qual scope f cdv A outer s H E) body c) :
    Callee P w K mg base (k + 1) x ps.length (mkF ps.length N.length c) :=
  ⟨f, fd, ps, fn_sound F S h, hm, F.kp, F.bindsN hb⟩

/-! ### the head: facts of a part of the heap without lists -/
theorem NoLst.rd {K : PySem.W.Frag} (n : NoLst K) {H : Hp} {a : Addr} {xs : List V} (h : SqL K H a xs) : Rd H a (.lst xs) := by
  rcases h with h | ⟨o, its, m, h1, h2, h3, h4, _⟩
  · exact h
  · have := n a o h1
    unfold isLst at this
    rw [h2, h4] at this
    cases this
end TN
namespace TN
open PySem PySem.Spec PyProof.Rows L2

/-! ### t[::-1] -/
section
variable {prog : Program} {w : World} {A : Around} {E : Value → Shared → Prop} {s : Shared}
end
section
variable {X : Cx}
end
end TN
namespace TN
open PySem PySem.Spec PyProof.Rows L2
def kindEq : NameKind → NameKind → Bool := fun a b => decide (a = b)
def lookIs (ns : List (Str × NameKind)) (x : Str) (k : NameKind) : Bool := decide (ns.lookup x = some k)
def blkB (N : List Str) (sc scope : Scope) (own : List (Str × Nat)) : Bool :=
  decide (scope.kind = .function) && (scope.names.all (fun y => lookIs scope.names y.1 y.2) && (own.all (fun p => decide (N[p.2]? = some p.1)) &&
    (scope.names.all (fun y => !kindEq y.2 .free || (lookIs sc.names y.1 .cell || lookIs sc.names y.1 .free)) &&
      scope.names.all (fun y => !(kindEq y.2 .local || kindEq y.2 .cell) || (decide (y.1 ∈ own.map (·.1)) || decide (y.1 ∉ N))))))
theorem blkB_ok {N : List Str} {sc scope : Scope} {own : List (Str × Nat)} (h : blkB N sc scope own = true) : BlkOk N sc scope own := by
  simp only [blkB, Bool.and_eq_true, List.all_eq_true, decide_eq_true_eq, Bool.or_eq_true, Bool.not_eq_true', lookIs, kindEq] at h
  obtain ⟨h1, h2, h3, h4, h5⟩ := h
  refine ⟨h1, h2, h3, fun y hy e => ?_, fun y hy e => ?_⟩
  · rcases h4 y hy with z | z
    · simp [e] at z
    · exact z
  · rcases h5 y hy with z | z
    · rcases e with e | e <;> simp [e] at z
    · exact z
end TN
namespace TN
open PySem PySem.Spec PyProof.Rows L2

/-! ### f(g(..), ..): the first argument a new list, lent -/
section
variable {K : PySem.W.Frag} {L : L2.St} {B G H : Hp} {σ : L2.St} {ρ ρ' : Rho} {x : Option V} {v : V} {d : D} {a : Addr}
theorem app_get {α : Type} {l : List α} {x y : α} {i : Nat} (h : (l ++ [x])[i]? = some y) : (i < l.length ∧ l[i]? = some y) ∨ (i = l.length ∧ x = y) := by
  by_cases hi : i < l.length
  · rw [List.getElem?_append_left hi] at h; exact .inl ⟨hi, h⟩
  · rw [List.getElem?_append_right (by omega)] at h
    have : i - l.length = 0 := by
      have := (List.getElem?_eq_some_iff.mp h).1
      simp at this; omega
    rw [this] at h
    simp at h
    exact .inr ⟨by omega, h⟩
theorem app_getI {α : Type} {l : List α} {x y : α} {i : Nat} (h : l[i]? = some y) : (l ++ [x])[i]? = some y := by
  rw [List.getElem?_append_left (List.getElem?_eq_some_iff.mp h).1]; exact h
theorem Rel.more (r : Rel K L B σ ρ G H) (h1 : G a = none) (h2 : B a = none) (c : Cont K G H a d) (hs : ∀ (j : Nat) (p : D × Md), ρ[j]? = some (some p) → p.2.isFz = false → σ[j]? ≠ some (some (.ref a))) :
    Rel K L B (σ ++ [some (.ref a)]) (ρ ++ [some (d, .own)]) G H := by
  refine ⟨r.sub, r.base, by simp [r.len], fun i p hp => ?_, fun i j p q v hij hp hq hf hf' hv hv' => ?_, fun j v hj => ?_⟩
  · rcases app_get hp with ⟨hi, hp⟩ | ⟨hi, e⟩
    · obtain ⟨v, h3, h4⟩ := r.slots i p hp
      exact ⟨v, app_getI h3, h4⟩
    · cases e
      refine ⟨.ref a, ?_, a, rfl, h1, h2, c⟩
      rw [hi, r.len, List.getElem?_append_right (Nat.le_refl _)]; simp
  · rcases app_get hp with ⟨hi, hp⟩ | ⟨hi, e⟩
    · rcases app_get hq with ⟨hj, hq⟩ | ⟨hj, e'⟩
      · rcases app_get hv with ⟨_, hv⟩ | ⟨z, _⟩
        · rcases app_get hv' with ⟨_, hv'⟩ | ⟨z, _⟩
          · exact r.sep i j p q v hij hp hq hf hf' hv hv'
          · rw [← r.len] at z; omega
        · rw [← r.len] at z; omega
      · cases e'
        rcases app_get hv with ⟨_, hv⟩ | ⟨z, _⟩
        · rcases app_get hv' with ⟨z, _⟩ | ⟨_, z⟩
          · rw [← r.len] at z; omega
          · cases z; exact hs i p hp hf hv
        · rw [← r.len] at z; omega
    · cases e
      rcases app_get hq with ⟨hj, hq⟩ | ⟨hj, e'⟩
      · rcases app_get hv with ⟨z, _⟩ | ⟨_, z⟩
        · rw [← r.len] at z; omega
        · cases z
          rcases app_get hv' with ⟨_, hv'⟩ | ⟨z, _⟩
          · exact hs j q hq hf' hv'
          · rw [← r.len] at z; omega
      · omega
  · obtain ⟨h3, d', m, h4, h5⟩ := r.lent j v hj
    exact ⟨app_getI h3, d', m, app_getI h4, h5⟩
theorem PlA.more : ∀ {vs : List V} {ps : List Pl}, PlA K σ G vs ps → PlA K (σ ++ [x]) G vs ps
  | _, _, .nil => .nil
  | _, _, .cons (p := p) h t => .cons (by
      cases p with
      | val d => exact h
      | tmp d => exact h
      | slot i => exact app_getI (show σ[i]? = some (some _) from h)) t.more
end
section
variable {X : Cx} {k n : Nat} {f : Addr} {fd : FuncData} {pn : List Str} {M : FM} {x : Str} {p pos : Pos} {e : Expr} {es : List Expr} {ce : CE} {cr : CA}
end
end TN
namespace TN
open PySem PySem.Spec PyProof.Rows L2

/-! ### calls, plainly -/
def noSlot : Pl → Bool
  | .slot _ => false
  | _ => true
theorem outAt_no {j : Nat} : ∀ {ps : List Pl} {outs : List Slot}, ps.all noSlot = true → outAt j ps outs = none
  | [], _, _ => by unfold outAt; rfl
  | p :: ps, [], _ => by unfold outAt; rfl
  | p :: ps, o :: os, h => by
    simp only [List.all_cons, Bool.and_eq_true] at h
    unfold outAt
    rw [if_neg, outAt_no h.2]
    cases p with
    | slot i => simp [noSlot] at h
    | val d => exact Bool.false_ne_true
    | tmp d => exact Bool.false_ne_true
theorem gbAt_none {ps : List Pl} {outs : List Slot} {j : Nat} (h : outAt j ps outs = none) (s : Slot) : gbAt ps outs j s = s := by
  unfold gbAt
  split <;> first | rfl | (rw [h])
theorem gb_no {ps : List Pl} {outs : List Slot} (h : ps.all noSlot = true) : ∀ (ρ : Rho) (j : Nat), gb ps outs j ρ = ρ
  | [], _ => rfl
  | s :: r, j => by
    unfold gb
    rw [gb_no h r (j + 1), gbAt_none (outAt_no h)]
theorem noDup_no {ps : List Pl} (h : ps.all noSlot = true) : noDup ps = true := by
  induction ps with
  | nil => rfl
  | cons p ps ih =>
    simp only [List.all_cons, Bool.and_eq_true] at h
    cases p with
    | slot i => exact absurd h.1 Bool.false_ne_true
    | val d => exact ih h.2
    | tmp d => exact ih h.2
theorem callM_no {M : FM} {ps : List Pl} {ρ : Rho} {as : List (D × Md)} {d : D} {fr : Bool} (h : ps.all noSlot = true) (ha : argsOf ps ρ = some as) (hM : ∃ outs, M as = .ok d fr outs) : callM M ps ρ = .ok (plR d fr) ρ := by
  obtain ⟨outs, hM⟩ := hM
  unfold callM
  simp only [ha, noDup_no h, if_true, hM, gb_no h]
theorem outAt_only {i j : Nat} (hij : j ≠ i) : ∀ {ps : List Pl} {outs : List Slot}, ps.all (fun p => noSlot p || isSlot i p) = true → outAt j ps outs = none
  | [], _, _ => by unfold outAt; rfl
  | p :: ps, [], _ => by unfold outAt; rfl
  | p :: ps, o :: os, h => by
    simp only [List.all_cons, Bool.and_eq_true] at h
    unfold outAt
    rw [if_neg, outAt_only hij h.2]
    intro z
    rw [isSlot_iff] at z
    subst z
    have := h.1
    simp [noSlot] at this
    have := isSlot_iff.mp this
    cases this
    exact hij rfl
theorem gb_set {i : Nat} {ps : List Pl} {outs : List Slot} {ρ : Rho} {d d' : D} {m : Md} (hi : ρ[i]? = some (some (d, m))) (hm : m = .own ∨ m = .lent) (h1 : ps.all (fun p => noSlot p || isSlot i p) = true) (ho : outAt i ps outs = some (some (d', .lent))) :
    gb ps outs 0 ρ = ρ.set i (some (d', m)) := by
  apply List.ext_getElem?
  intro j
  rw [gb_get, Nat.zero_add]
  by_cases hj : j = i
  · subst hj
    rw [hi, List.getElem?_set_self (List.getElem?_eq_some_iff.mp hi).1]
    rcases hm with rfl | rfl <;> simp only [Option.map_some, gbAt, ho]
  · rw [List.getElem?_set_ne (Ne.symm hj)]
    cases q : ρ[j]? with
    | none => rfl
    | some s => rw [Option.map_some, gbAt_none (outAt_only hj h1)]
theorem callM_lent {M : FM} {i : Nat} {ps : List Pl} {outs : List Slot} {ρ : Rho} {as : List (D × Md)} {r d d' : D} {fr : Bool} {m : Md} (hi : ρ[i]? = some (some (d, m))) (hm : m = .own ∨ m = .lent) (h1 : ps.all (fun p => noSlot p || isSlot i p) = true) (nd : noDup ps = true)
    (ha : argsOf ps ρ = some as) (hM : M as = .ok r fr outs) (ho : outAt i ps outs = some (some (d', .lent))) : callM M ps ρ = .ok (plR r fr) (ρ.set i (some (d', m))) := by
  unfold callM
  simp only [ha, nd, if_true, hM, gb_set hi hm h1 ho]

/-! ### loops, plainly -/
def tTrue : CB := fun ρ => .ok true ρ
def RS.rv : RS → Option (D × Bool)
  | .ret d fr _ => some (d, fr)
  | _ => none
def FR.rv : FR → Option (D × Bool)
  | .ok d fr _ => some (d, fr)
  | _ => none
end TN
namespace TN
open PySem PySem.Spec PyProof.Rows L2

/-! ### what all laws begin by: a script's cell, a pen, its draws -/
def ccCell : CS := (cSeq (cIf (cTst (cBin opLt (cVar 1) (cFn fLen (cCons (cVar 0) cNil))))
  (cRet (cBin opIx (cVar 0) (cVar 1)))
  cSkip)
  (cRet (cLit (.int 0))))
def MMCell : FM := mkF 2 2 ccCell
def ccNext : CS := (cSeq (cSet 0 (cBin opMod (cBin opAdd (cVar 0) (cLit (.int 7919))) (cLit (.int 2147483647))))
  (cRet (cBin opMod (cBin opAdd (cBin opAdd (cBin opMul (cVar 0) (cVar 0)) (cBin opMul (cLit (.int 48271)) (cVar 0))) (cLit (.int 12345))) (cLit (.int 2147483629)))))
def MMNext : FM := mkF 1 1 ccNext
def ccPen : CS := (cSeq (cSet 1 (cFn fMax2 (cCons (cVar 0) (cCons (cBin opSub (cLit (.int 0)) (cVar 0)) cNil))))
  (cRet (cLst (cCons (cVar 1) (cCons (cFn fInt (cCons (cBin opGe (cVar 1) (cBin opPow (cLit (.int 10)) (cLit (.int 18)))) cNil)) (cCons (cBin opMod (cVar 1) (cLit (.int 1000003))) cNil))))))
def MMPen : FM := mkF 1 2 ccPen
def ccDraw : CS := (cSeq (cIf (cTst (cBin opEq (cBin opIx (cVar 0) (cLit (.int 1))) (cLit (.int 1))))
  (cSeq (cSet 2 (cBin opMod (cBin opIx (cVar 0) (cLit (.int 0))) (cVar 1)))
  (cSeq (cUnp (gPut 0 putA (cLit (.int 0))) (cBin opDiv (cBin opIx (cVar 0) (cLit (.int 0))) (cVar 1)))
  (cRet (cVar 2))))
  cSkip)
  (cSeq (cUnp (gPut 0 putA (cLit (.int 2))) (cCall MMNext (cCons (cBin opAdd (cCall MMNext (cCons (cBin opIx (cVar 0) (cLit (.int 2))) cNil)) (cLit (.int 7))) cNil)))
  (cRet (cBin opMod (cBin opDiv (cBin opIx (cVar 0) (cLit (.int 2))) (cLit (.int 64))) (cVar 1)))))
def MMDraw : FM := mkF 2 3 ccDraw
/-! equations -/
theorem opAdd_i (i j : Int) : opAdd (.int i) (.int j) = some (.val (.int (i + j))) := rfl
theorem opAdd_t (a b : List D) : opAdd (.tuple a) (.tuple b) = if a.length + b.length ≤ 16777216 then some (.val (.tuple (a ++ b))) else none := rfl
theorem opAdd_l (a b : List D) : opAdd (.list a) (.list b) = if a.length + b.length ≤ 16777216 then some (.tmp (.list (a ++ b))) else none := rfl
theorem opAdd_s (a b : Str) : opAdd (.str a) (.str b) = if a.length + b.length ≤ 16777216 then some (.val (.str (a ++ b))) else none := rfl
theorem opSub_i (i j : Int) : opSub (.int i) (.int j) = some (.val (.int (i - j))) := rfl
theorem opMul_i (i j : Int) : opMul (.int i) (.int j) = if mulB i j = true then some (.val (.int (i * j))) else none := rfl
theorem opMod_i (i j : Int) : opMod (.int i) (.int j) = if 0 < j then some (.val (.int (i % j))) else none := rfl
theorem opDiv_i (i j : Int) : opDiv (.int i) (.int j) = if 0 < j ∧ j < 10000000000000000000000000000000000000000000000000000000000000000000000 then some (.val (.int (i / j))) else none := rfl
theorem opPow_i (i j : Int) : opPow (.int i) (.int j) = if 0 ≤ j ∧ j ≤ 1000 ∧ i.natAbs < 18446744073709551616 then some (.val (.int (i ^ j.toNat))) else none := rfl
theorem opNeg_i (i : Int) : opNeg (.int i) = some (.val (.int (-i))) := rfl
theorem opEq_int (i j : Int) : opEq (.int i) (.int j) = some (.val (.bool (decide (i = j)))) := by
  have : PyData.eqv (.int i) (.int j) = decide (i = j) := by simp only [PyData.eqv]; by_cases h : i = j <;> simp [h]
  unfold opEq
  rw [if_pos ⟨rfl, rfl⟩, this]
theorem opNe_int (i j : Int) : opNe (.int i) (.int j) = some (.val (.bool (!decide (i = j)))) := by
  have : PyData.eqv (.int i) (.int j) = decide (i = j) := by simp only [PyData.eqv]; by_cases h : i = j <;> simp [h]
  unfold opNe
  rw [if_pos ⟨rfl, rfl⟩, this]
theorem opLt_i (f : Int → Int → Bool) (i j : Int) : opLtG f (.int i) (.int j) = some (.val (.bool (f i j))) := rfl
theorem opIx_l (a : List D) (i : Int) : opIx (.list a) (.int i) = (atI a i).map .val := rfl
theorem opIx_t (a : List D) (i : Int) : opIx (.tuple a) (.int i) = (atI a i).map .val := rfl
theorem opIsN_i (x : D) : opIsN x .none = some (.val (.bool (isNonD x))) := rfl
theorem opNotN_i (x : D) : opNotN x .none = some (.val (.bool (!isNonD x))) := rfl
theorem fLen_l (a : List D) : fLen [.list a] = some (.val (.int a.length)) := rfl
theorem fLen_t (a : List D) : fLen [.tuple a] = some (.val (.int a.length)) := rfl
theorem fInt_i (i : Int) : fInt [.int i] = some (.val (.int i)) := rfl
theorem fInt_b (b : Bool) : fInt [.bool b] = some (.val (.int (if b = true then 1 else 0))) := rfl
theorem fMax2_i (i j : Int) : fMax2 [.int i, .int j] = some (.val (.int (if j > i then j else i))) := rfl
theorem fMin2_i (i j : Int) : fMin2 [.int i, .int j] = some (.val (.int (if j < i then j else i))) := rfl
theorem fTuple_l (a : List D) : fTuple [.list a] = some (.val (.tuple a)) := rfl
theorem fTuple_t (a : List D) : fTuple [.tuple a] = some (.val (.tuple a)) := rfl
theorem fList_l (a : List D) : fListA [.list a] = some (.tmp (.list a)) := rfl
theorem fList_t (a : List D) : fListA [.tuple a] = some (.tmp (.list a)) := rfl
theorem fAppend_i (a : List D) (x : D) : fAppend (.list a) [x] = if a.length < 16777216 then some (.list (a ++ [x]), .none) else none := rfl
theorem fExtend_l (a b : List D) : fExtend (.list a) [.list b] = if a.length + b.length ≤ 16777216 then some (.list (a ++ b), .none) else none := rfl
theorem fExtend_t (a b : List D) : fExtend (.list a) [.tuple b] = if a.length + b.length ≤ 16777216 then some (.list (a ++ b), .none) else none := rfl
theorem putA_i (a : List D) (i : Int) (d : D) : putA (.list a) (.int i) d = match ixN a.length i with
    | some j => some (.list (a.set j d))
    | none => none := rfl
theorem opSl_l (a : List D) (lo hi : Option Int) : opSl (.list a) lo hi = some (.tmp (.list (cutL a lo hi))) := rfl
theorem opSl_t (a : List D) (lo hi : Option Int) : opSl (.tuple a) lo hi = some (.val (.tuple (cutL a lo hi))) := rfl
theorem atI_nat {α : Type} (a : List α) (k : Nat) (x : α) (h : a[k]? = some x) : atI a (k : Int) = some x := by
  have hk : k < a.length := (List.getElem?_eq_some_iff.mp h).1
  unfold atI ixN
  simp [hk]
  exact (List.getElem?_eq_some_iff.mp h).2
def Pen.next (p : Pen) (m : Int) : Pen := if p.f = 1 then ⟨p.a / m, p.f, p.s⟩ else ⟨p.a, p.f, nextI (nextI p.s + 7)⟩
def penOf (c : Int) : Pen := ⟨if c < 0 then -c else c, if 1000000000000000000 ≤ (if c < 0 then -c else c) then 1 else 0, (if c < 0 then -c else c) % 1000003⟩
def cellAt (ns : List Int) (k : Nat) : Int := ns.getD k 0
theorem Pen.draw_ge (p : Pen) {m : Int} (h : 0 < m) : 0 ≤ p.draw m := by
  unfold Pen.draw; split <;> exact Int.emod_nonneg _ (by omega)
theorem Pen.draw_lt (p : Pen) {m : Int} (h : 0 < m) : p.draw m < m := by
  unfold Pen.draw; split <;> exact Int.emod_lt_of_pos _ h
theorem next_run (s : Int) : ∃ outs, MMNext [(.int s, .fz)] = .ok (.int (nextI s)) false outs := by
  have h1 : 0 ≤ (s + 7919) % 2147483647 := Int.emod_nonneg _ (by decide)
  have h2 : (s + 7919) % 2147483647 < 2147483647 := Int.emod_lt_of_pos _ (by decide)
  have hm : mulB ((s + 7919) % 2147483647) ((s + 7919) % 2147483647) = true := by
    unfold mulB; simp; omega
  have hm2 : mulB 48271 ((s + 7919) % 2147483647) = true := by
    unfold mulB; simp
  refine ⟨[some (.int ((s + 7919) % 2147483647), .fz)], ?_⟩
  simp [MMNext, ccNext, mkF, RS.rv, FR.rv, cSeq, cIf, cTst, cSet, cRet, cRetN, retP, cBin, cUn, cFn, cCons, cNil, cVar, cLit, cUnp, gPut, gNm, gTp, gsCons, gsNil, cFz, cDrop, cSkip, cAnd, cOr, cNot, cAndV, cOrV, cNotV, cIte, cTup, cLst, cCall, cPar, cAugI, cMutL, cMut, TN.R.bind, TN.R.toS, TN.R.toSB, look, lookA, TN.R.ofOpt, store, canSet, frzA, frz, plR, ownAt, opAdd_i, opAdd_t, opAdd_l, opAdd_s, opSub_i, opMul_i, opMod_i, opDiv_i, opPow_i, opNeg_i, opEq_int, opNe_int, opLt_i, opIx_l, opIx_t, opIsN_i, opNotN_i, fLen_l, fLen_t, fInt_i, fInt_b, fMax2_i, fMin2_i, fTuple_l, fTuple_t, fList_l, fList_t, fAppend_i, fExtend_l, fExtend_t, putA_i, cPart, cNoPart, cSl, opSl_l, opSl_t, hm, hm2, nextI]
theorem cell_run (ns : List Int) (k : Nat) : ∃ outs, MMCell [(.list (ns.map .int), .fz), (.int k, .fz)] = .ok (.int (cellAt ns k)) false outs := by
  refine ⟨[some (.list (ns.map .int), .fz), some (.int k, .fz)], ?_⟩
  by_cases h : k < ns.length
  · have e : atI (ns.map PyData.int) (k : Int) = some (.int (cellAt ns k)) := atI_nat _ _ _ (by simp [cellAt, h])
    simp [MMCell, ccCell, mkF, RS.rv, FR.rv, cSeq, cIf, cTst, cSet, cRet, cRetN, retP, cBin, cUn, cFn, cCons, cNil, cVar, cLit, cUnp, gPut, gNm, gTp, gsCons, gsNil, cFz, cDrop, cSkip, cAnd, cOr, cNot, cAndV, cOrV, cNotV, cIte, cTup, cLst, cCall, cPar, cAugI, cMutL, cMut, TN.R.bind, TN.R.toS, TN.R.toSB, look, lookA, TN.R.ofOpt, store, canSet, frzA, frz, plR, ownAt, opAdd_i, opAdd_t, opAdd_l, opAdd_s, opSub_i, opMul_i, opMod_i, opDiv_i, opPow_i, opNeg_i, opEq_int, opNe_int, opLt_i, opIx_l, opIx_t, opIsN_i, opNotN_i, fLen_l, fLen_t, fInt_i, fInt_b, fMax2_i, fMin2_i, fTuple_l, fTuple_t, fList_l, fList_t, fAppend_i, fExtend_l, fExtend_t, putA_i, cPart, cNoPart, cSl, opSl_l, opSl_t, h, e]
  · have e : cellAt ns k = 0 := by unfold cellAt; simp [Nat.le_of_not_lt h]
    simp [MMCell, ccCell, mkF, RS.rv, FR.rv, cSeq, cIf, cTst, cSet, cRet, cRetN, retP, cBin, cUn, cFn, cCons, cNil, cVar, cLit, cUnp, gPut, gNm, gTp, gsCons, gsNil, cFz, cDrop, cSkip, cAnd, cOr, cNot, cAndV, cOrV, cNotV, cIte, cTup, cLst, cCall, cPar, cAugI, cMutL, cMut, TN.R.bind, TN.R.toS, TN.R.toSB, look, lookA, TN.R.ofOpt, store, canSet, frzA, frz, plR, ownAt, opAdd_i, opAdd_t, opAdd_l, opAdd_s, opSub_i, opMul_i, opMod_i, opDiv_i, opPow_i, opNeg_i, opEq_int, opNe_int, opLt_i, opIx_l, opIx_t, opIsN_i, opNotN_i, fLen_l, fLen_t, fInt_i, fInt_b, fMax2_i, fMin2_i, fTuple_l, fTuple_t, fList_l, fList_t, fAppend_i, fExtend_l, fExtend_t, putA_i, cPart, cNoPart, cSl, opSl_l, opSl_t, h, e]
theorem pen_run (c : Int) : ∃ outs, MMPen [(.int c, .fz)] = .ok (penOf c).d true outs := by
  have e : (if c < -c then -c else c) = if c < 0 then -c else c := by
    by_cases h : c < 0
    · rw [if_pos (by omega), if_pos h]
    · rw [if_neg (by omega), if_neg h]
  refine ⟨[some (.int c, .fz)], ?_⟩
  simp [MMPen, ccPen, mkF, RS.rv, FR.rv, cSeq, cIf, cTst, cSet, cRet, cRetN, retP, cBin, cUn, cFn, cCons, cNil, cVar, cLit, cUnp, gPut, gNm, gTp, gsCons, gsNil, cFz, cDrop, cSkip, cAnd, cOr, cNot, cAndV, cOrV, cNotV, cIte, cTup, cLst, cCall, cPar, cAugI, cMutL, cMut, TN.R.bind, TN.R.toS, TN.R.toSB, look, lookA, TN.R.ofOpt, store, canSet, frzA, frz, plR, ownAt, opAdd_i, opAdd_t, opAdd_l, opAdd_s, opSub_i, opMul_i, opMod_i, opDiv_i, opPow_i, opNeg_i, opEq_int, opNe_int, opLt_i, opIx_l, opIx_t, opIsN_i, opNotN_i, fLen_l, fLen_t, fInt_i, fInt_b, fMax2_i, fMin2_i, fTuple_l, fTuple_t, fList_l, fList_t, fAppend_i, fExtend_l, fExtend_t, putA_i, cPart, cNoPart, cSl, opSl_l, opSl_t, penOf, Pen.d]
  rw [e]
  simp
theorem draw_run (p : Pen) (m : Int) (h0 : 0 < m) (h1 : m < 10000000000000000000000000000000000000000000000000000000000000000000000) :
    MMDraw [(p.d, .lent), (.int m, .fz)] = .ok (.int (p.draw m)) false [some ((p.next m).d, .lent), some (.int m, .fz)] := by
  obtain ⟨o1, n1⟩ := next_run p.s
  obtain ⟨o2, n2⟩ := next_run (nextI p.s + 7)
  have c1 : ∀ ρ : Rho, callM MMNext [.val (.int p.s)] ρ = .ok (.val (.int (nextI p.s))) ρ := fun ρ => callM_no rfl rfl ⟨_, n1⟩
  have c2 : ∀ ρ : Rho, callM MMNext [.val (.int (nextI p.s + 7))] ρ = .ok (.val (.int (nextI (nextI p.s + 7)))) ρ := fun ρ => callM_no rfl rfl ⟨_, n2⟩
  by_cases hf : p.f = 1
  · simp [MMDraw, ccDraw, mkF, RS.rv, FR.rv, cSeq, cIf, cTst, cSet, cRet, cRetN, retP, cBin, cUn, cFn, cCons, cNil, cVar, cLit, cUnp, gPut, gNm, gTp, gsCons, gsNil, cFz, cDrop, cSkip, cAnd, cOr, cNot, cAndV, cOrV, cNotV, cIte, cTup, cLst, cCall, cPar, cAugI, cMutL, cMut, TN.R.bind, TN.R.toS, TN.R.toSB, look, lookA, TN.R.ofOpt, store, canSet, frzA, frz, plR, ownAt, opAdd_i, opAdd_t, opAdd_l, opAdd_s, opSub_i, opMul_i, opMod_i, opDiv_i, opPow_i, opNeg_i, opEq_int, opNe_int, opLt_i, opIx_l, opIx_t, opIsN_i, opNotN_i, fLen_l, fLen_t, fInt_i, fInt_b, fMax2_i, fMin2_i, fTuple_l, fTuple_t, fList_l, fList_t, fAppend_i, fExtend_l, fExtend_t, putA_i, cPart, cNoPart, cSl, opSl_l, opSl_t, Pen.d, hf, atI, ixN, h0, h1, Pen.draw, Pen.next]
  · simp [MMDraw, ccDraw, mkF, RS.rv, FR.rv, cSeq, cIf, cTst, cSet, cRet, cRetN, retP, cBin, cUn, cFn, cCons, cNil, cVar, cLit, cUnp, gPut, gNm, gTp, gsCons, gsNil, cFz, cDrop, cSkip, cAnd, cOr, cNot, cAndV, cOrV, cNotV, cIte, cTup, cLst, cCall, cPar, cAugI, cMutL, cMut, TN.R.bind, TN.R.toS, TN.R.toSB, look, lookA, TN.R.ofOpt, store, canSet, frzA, frz, plR, ownAt, opAdd_i, opAdd_t, opAdd_l, opAdd_s, opSub_i, opMul_i, opMod_i, opDiv_i, opPow_i, opNeg_i, opEq_int, opNe_int, opLt_i, opIx_l, opIx_t, opIsN_i, opNotN_i, fLen_l, fLen_t, fInt_i, fInt_b, fMax2_i, fMin2_i, fTuple_l, fTuple_t, fList_l, fList_t, fAppend_i, fExtend_l, fExtend_t, putA_i, cPart, cNoPart, cSl, opSl_l, opSl_t, Pen.d, hf, atI, ixN, h0, h1, Pen.draw, Pen.next, c1, c2]
/-- a draw by a name's pen -/
theorem draw_call {ρ : Rho} {i : Nat} {p : Pen} {m : Int} {md : Md} (hi : ρ[i]? = some (some (p.d, md))) (hm : md = .own ∨ md = .lent) (h0 : 0 < m) (h1 : m < 10000000000000000000000000000000000000000000000000000000000000000000000) :
    callM MMDraw [.slot i, .val (.int m)] ρ = .ok (.val (.int (p.draw m))) (ρ.set i (some ((p.next m).d, md))) := by
  refine callM_lent (as := [(p.d, .lent), (.int m, .fz)]) hi hm ?_ rfl ?_ (draw_run p m h0 h1) ?_
  · simp [noSlot, isSlot]
  · rcases hm with rfl | rfl <;> simp [argsOf, argOf, hi]
  · simp [outAt, isSlot]
theorem cell_call {ρ : Rho} (ns : List Int) (k : Nat) : callM MMCell [.val (.list (ns.map .int)), .val (.int k)] ρ = .ok (.val (.int (cellAt ns k))) ρ := callM_no rfl rfl (cell_run ns k)
theorem pen_call {ρ : Rho} (c : Int) : callM MMPen [.val (.int c)] ρ = .ok (.tmp (penOf c).d) ρ := callM_no rfl rfl (pen_run c)
end TN
namespace TN
open PySem PySem.Spec PyProof.Rows L2

/-! ### comprehensions, loops: one turn -/
theorem back_wipe {ρ : Rho} : ∀ {vs : List Nat}, backR ρ (wipeR ρ vs) vs = ρ := by
  intro vs
  apply List.ext_getElem?
  intro i
  by_cases hi : i ∈ vs
  · rw [backR_in (wipeR_length ρ vs).symm hi]
  · rw [backR_out hi, wipeR_out hi]
/-! ### what is returned -/
theorem FR.rv_ok {r : FR} {d : D} {fr : Bool} (h : r.rv = some (d, fr)) : ∃ outs, r = .ok d fr outs := by
  cases r with
  | ok a b o => simp only [FR.rv, Option.some.injEq, Prod.mk.injEq] at h; obtain ⟨rfl, rfl⟩ := h; exact ⟨o, rfl⟩
  | exc x o => cases h
  | bad => cases h
theorem RS.rv_ret {r : RS} {d : D} {fr : Bool} (h : r.rv = some (d, fr)) : ∃ ρ, r = .ret d fr ρ := by
  cases r with
  | ret a b o => simp only [RS.rv, Option.some.injEq, Prod.mk.injEq] at h; obtain ⟨rfl, rfl⟩ := h; exact ⟨o, rfl⟩
  | nx o => cases h
  | exc x o => cases h
  | bad => cases h
theorem callM_rv {M : FM} {ps : List Pl} {ρ : Rho} {as : List (D × Md)} {d : D} {fr : Bool} (h : ps.all noSlot = true) (ha : argsOf ps ρ = some as) (hM : (M as).rv = some (d, fr)) : callM M ps ρ = .ok (plR d fr) ρ := callM_no h ha (FR.rv_ok hM)
theorem nx_seq {a b : CS} {ρ ρ1 : Rho} (h : a ρ = .nx ρ1) : cSeq a b ρ = b ρ1 := by simp only [cSeq, h]
theorem rv_mkF {n m : Nat} {c : CS} {as : List (D × Md)} {d : D} {fr : Bool} (hl : as.length = n) (h : (c (as.map some ++ List.replicate (m - n) none)).rv = some (d, fr)) : (mkF n m c as).rv = some (d, fr) := by
  obtain ⟨ρ', e⟩ := RS.rv_ret h
  unfold mkF
  simp only [hl, if_true, e]; rfl
/-! ### draws by a pen in a certain slot -/
section
variable {p : Pen} {m : Int} {s0 s1 s2 s3 s4 s5 s6 s7 : Slot} {ρ : Rho}
end

/-- a slot with what doesn't matter -/
def jk (j : Option D) : Slot := match j with
  | some d => some (d, .fz)
  | none => none
/-! ### is_whole -/
def isIntD : D → Bool
  | .int _ => true
  | _ => false
def ccWhole : CS := (cRet (cAndV (cUn (opIsi "int") (cVar 0)) (cNotV (cUn (opIsi "bool") (cVar 0)))))
def MMWhole : FM := mkF 1 1 ccWhole
theorem whole_run (d : D) : (MMWhole [(d, .fz)]).rv = some (.bool (isIntD d), false) := by
  cases d <;> rfl
theorem whole_call {ρ : Rho} (d : D) : callM MMWhole [.val d] ρ = .ok (.val (.bool (isIntD d))) ρ := callM_rv rfl rfl (whole_run d)
def isTupD : D → Bool
  | .tuple _ => true
  | _ => false
def isLstD : D → Bool
  | .list _ => true
  | _ => false
def isBoolD : D → Bool
  | .bool _ => true
  | _ => false
theorem isi_tuple (d : D) : opIsi "tuple" d = some (.val (.bool (isTupD d))) := by cases d <;> rfl
theorem isi_list (d : D) : opIsi "list" d = some (.val (.bool (isLstD d))) := by cases d <;> rfl
theorem isi_bool (d : D) : opIsi "bool" d = some (.val (.bool (isBoolD d))) := by cases d <;> rfl
/-! ### equal data -/
theorem eqvAll_ints : ∀ (a b : List Int), PyData.eqvAll (a.map .int) (b.map .int) = decide (a = b)
  | [], [] => by simp [PyData.eqvAll]
  | [], _ :: _ => by simp [PyData.eqvAll]
  | _ :: _, [] => by simp [PyData.eqvAll]
  | x :: xs, y :: ys => by
    simp only [List.map_cons, PyData.eqvAll, PyData.eqv, eqvAll_ints xs ys]
    by_cases h1 : x = y
    · by_cases h2 : xs = ys
      · simp [h1, h2]
      · simp [h1, h2]
    · simp [h1]
theorem depthAll_ints : ∀ (a : List Int), PyData.depthAll (a.map .int) ≤ 1
  | [] => by simp [PyData.depthAll]
  | x :: xs => by
    have := depthAll_ints xs
    simp only [List.map_cons, PyData.depthAll, PyData.depth]
    omega
theorem canLay_ints : ∀ (a : List Int), PyData.canLayAll0 (a.map .int) = true
  | [] => by simp [PyData.canLayAll0]
  | x :: xs => by simp [PyData.canLayAll0, PyData.canLay0, canLay_ints xs]
theorem shaped_ints (a : List Int) : SeqAt.shaped (.list (a.map .int)) = true := by
  have := depthAll_ints a
  unfold SeqAt.shaped
  simp only [PyData.canLay0, canLay_ints, PyData.depth, Bool.true_and]
  exact decide_eq_true (by omega)
theorem shaped_tints (a : List Int) : SeqAt.shaped (.tuple (a.map .int)) = true := by
  have := depthAll_ints a
  unfold SeqAt.shaped
  simp only [PyData.canLay0, canLay_ints, PyData.depth, Bool.true_and]
  exact decide_eq_true (by omega)
theorem opEq_ints (a b : List Int) : opEq (.list (a.map .int)) (.list (b.map .int)) = some (.val (.bool (decide (a = b)))) := by
  unfold opEq
  rw [if_pos ⟨shaped_ints a, shaped_ints b⟩, PyData.eqv, eqvAll_ints]
theorem opNe_ints (a b : List Int) : opNe (.list (a.map .int)) (.list (b.map .int)) = some (.val (.bool (!decide (a = b)))) := by
  unfold opNe
  rw [if_pos ⟨shaped_ints a, shaped_ints b⟩, PyData.eqv, eqvAll_ints]
theorem opEq_tints (a b : List Int) : opEq (.tuple (a.map .int)) (.tuple (b.map .int)) = some (.val (.bool (decide (a = b)))) := by
  unfold opEq
  rw [if_pos ⟨shaped_tints a, shaped_tints b⟩, PyData.eqv, eqvAll_ints]
theorem opNe_tints (a b : List Int) : opNe (.tuple (a.map .int)) (.tuple (b.map .int)) = some (.val (.bool (!decide (a = b)))) := by
  unfold opNe
  rw [if_pos ⟨shaped_tints a, shaped_tints b⟩, PyData.eqv, eqvAll_ints]
theorem opEq_bool (a b : Bool) : opEq (.bool a) (.bool b) = some (.val (.bool (a == b))) := by
  unfold opEq
  rw [if_pos ⟨rfl, rfl⟩, PyData.eqv]
theorem fAll_bools (bs : List Bool) : fAll [.list (bs.map .bool)] = some (.val (.bool (bs.all id))) := by
  simp only [fAll, blsOf_map]
theorem fAll_map {α : Type} (xs : List α) (f : α → Bool) : fAll [.list (xs.map fun x => .bool (f x))] = some (.val (.bool (xs.all f))) := by
  have := fAll_bools (xs.map f)
  rw [List.map_map] at this
  rw [show (fun x => PyData.bool (f x)) = PyData.bool ∘ f from rfl, this]
  simp [List.all_map]
theorem fSum_l (ns : List Int) : fSum [.list (ns.map .int)] = some (.val (.int ns.sum)) := by simp only [fSum, seqInts, seqOf, intsOf_map]
theorem fSum_t (ns : List Int) : fSum [.tuple (ns.map .int)] = some (.val (.int ns.sum)) := by simp only [fSum, seqInts, seqOf, intsOf_map]
theorem fSorted_l (ns : List Int) (h : ns.length ≤ 16777216) : fSorted [.list (ns.map .int)] = some (.tmp (.list ((sortI ns).map .int))) := by
  simp only [fSorted, sortDs, intsOf_map, h, if_true, Option.map_some]
theorem fLenSet_l (ns : List Int) (h : ns.length ≤ 4000) : fLenSet (.list (ns.map .int)) = some (.val (.int ((ddI ns).length : Nat))) := by
  simp only [fLenSet, seqInts, seqOf, intsOf_map, h, if_true]
theorem fLenSet_t (ns : List Int) (h : ns.length ≤ 4000) : fLenSet (.tuple (ns.map .int)) = some (.val (.int ((ddI ns).length : Nat))) := by
  simp only [fLenSet, seqInts, seqOf, intsOf_map, h, if_true]
/-! ### cuts -/
theorem cut_from {α : Type} (a : List α) (k : Nat) (h : k ≤ a.length) : cutL a (some (k : Int)) none = a.drop k := by
  unfold cutL
  rw [HT.sIx_none, HT.sIx_nat, Nat.min_eq_left h]
  exact List.take_of_length_le (by simp)
theorem cut_mid {α : Type} (a : List α) (j k : Nat) : cutL a (some (j : Int)) (some (k : Int)) = (a.take k).drop j := by
  unfold cutL
  rw [HT.sIx_nat, HT.sIx_nat, List.drop_take]
  by_cases h : j ≤ a.length
  · rw [Nat.min_eq_left h]
    by_cases h2 : k ≤ a.length
    · rw [Nat.min_eq_left h2]
    · rw [Nat.min_eq_right (by omega), List.take_of_length_le (by simp), List.take_of_length_le (by simp; omega)]
  · rw [Nat.min_eq_right (Nat.le_of_not_le h), List.drop_eq_nil_of_le (Nat.le_refl _), List.drop_eq_nil_of_le (Nat.le_of_not_le h)]
    simp
theorem rgD_nat (n : Nat) : rgD 0 (n : Int) = (List.range n).map fun i => PyData.int (i : Nat) := by
  unfold rgD
  simp
end TN
namespace TN
open PySem PySem.Spec PyProof.Rows L2
/-! ### loops by what was walked -/
/-- a sequence of statements, its value -/
theorem seq_rv {a b : CS} {ρ ρ1 : Rho} {v : Option (D × Bool)} (h : a ρ = .nx ρ1) (h2 : (b ρ1).rv = v) : (cSeq a b ρ).rv = v := by rw [nx_seq h]; exact h2
theorem atI_ints {r : List Int} {i : Nat} (h : i < r.length) : atI (r.map PyData.int) (i : Int) = some (.int (r.getD i 0)) := atI_nat _ _ _ (by simp [h])
/-! ### ranges -/
/-! ### steps by their parts -/
theorem bin_ok {f : D → D → Option Pl} {a b : CE} {ρ ρ1 ρ2 : Rho} {p q r : Pl} {x y : D} (ha : a ρ = .ok p ρ1) (hb : b ρ1 = .ok q ρ2) (hx : look p ρ2 = some x) (hy : look q ρ2 = some y) (hf : f x y = some r) : cBin f a b ρ = .ok r ρ2 := by
  unfold cBin
  simp only [ha, hb, R.bind, hx, hy, hf, R.ofOpt]
theorem call1_ok {M : FM} {a : CE} {ρ ρ1 : Rho} {p : Pl} {r : R Pl} (ha : a ρ = .ok p ρ1) (h : callM M [p] ρ1 = r) : cCall M (cCons a cNil) ρ = r := by
  unfold cCall cCons cNil
  simp only [ha, R.bind, h]
theorem call2_ok {M : FM} {a b : CE} {ρ ρ1 ρ2 : Rho} {p q : Pl} {r : R Pl} (ha : a ρ = .ok p ρ1) (hb : b ρ1 = .ok q ρ2) (h : callM M [p, q] ρ2 = r) : cCall M (cCons a (cCons b cNil)) ρ = r := by
  unfold cCall cCons cNil
  simp only [ha, hb, R.bind, h]
theorem tst_ok {c : CE} {ρ ρ1 : Rho} {p : Pl} {b : Bool} (h : c ρ = .ok p ρ1) (hl : look p ρ1 = some (.bool b)) : cTst c ρ = .ok b ρ1 := by
  unfold cTst
  simp only [h, R.bind, hl]
theorem not_ok {t : CB} {ρ ρ1 : Rho} {b : Bool} (h : t ρ = .ok b ρ1) : cNot t ρ = .ok (!b) ρ1 := by
  unfold cNot
  simp only [h, R.bind]
theorem or_no {a b : CB} {ρ ρ1 : Rho} {r : R Bool} (h : a ρ = .ok false ρ1) (h2 : b ρ1 = r) : cOr a b ρ = r := by
  unfold cOr
  simp only [h, R.bind, if_neg Bool.false_ne_true, h2]
theorem if_no {t : CB} {a b : CS} {ρ ρ1 : Rho} {r : RS} (h : t ρ = .ok false ρ1) (h2 : b ρ1 = r) : cIf t a b ρ = r := by
  unfold cIf
  simp only [h, R.toSB, if_neg Bool.false_ne_true, h2]
theorem ret_rvT {c : CE} {ρ ρ1 : Rho} {d : D} (h : c ρ = .ok (.tmp d) ρ1) : (cRet c ρ).rv = some (d, true) := by
  unfold cRet
  simp only [h, R.toS, retP]; rfl
theorem var_fz {i : Nat} {ρ : Rho} {d : D} (h : ρ[i]? = some (some (d, .fz))) : cVar i ρ = .ok (.val d) ρ := by unfold cVar; simp only [h]
theorem var_own {i : Nat} {ρ : Rho} {d : D} (h : ρ[i]? = some (some (d, .own))) : cVar i ρ = .ok (.slot i) ρ := by unfold cVar; simp only [h]
theorem var_lent {i : Nat} {ρ : Rho} {d : D} (h : ρ[i]? = some (some (d, .lent))) : cVar i ρ = .ok (.slot i) ρ := by unfold cVar; simp only [h]
theorem look_slot {i : Nat} {ρ : Rho} {d : D} {m : Md} (h : ρ[i]? = some (some (d, m))) : look (.slot i) ρ = some d := by unfold look; simp only [h]
theorem it_tmp {c : CE} {ρ ρ1 : Rho} {d : D} {ds : List D} (h : c ρ = .ok (.tmp d) ρ1) (hd : seqD d = some ds) : cIt c ρ = .ok ds ρ1 := by
  unfold cIt cFz
  simp only [h, R.bind, frz, hd]
/-! ### sorted ints -/
theorem sortI_perm (l : List Int) : (sortI l).Perm l := List.mergeSort_perm _ _
theorem sortI_pw (l : List Int) : (sortI l).Pairwise (· ≤ ·) := by
  have := List.pairwise_mergeSort (le := fun a b : Int => decide (a ≤ b)) (fun a b c h1 h2 => by simp at h1 h2 ⊢; omega) (fun a b => by simp; omega) l
  exact this.imp fun h => by simpa using h
theorem sortI_iff {l m : List Int} (hm : m.Pairwise (· ≤ ·)) : sortI l = m ↔ l.Perm m :=
  ⟨fun h => h ▸ (sortI_perm l).symm, fun h => List.Perm.eq_of_pairwise (le := (· ≤ ·)) (fun a b _ _ h1 h2 => Int.le_antisymm h1 h2) (sortI_pw l) hm ((sortI_perm l).trans h)⟩
/-! ### what is returned, what the parameters hold -/
theorem ar_nil {ρ : Rho} : cNil ρ = .ok [] ρ := rfl
theorem ar_cons {a : CE} {r : CA} {ρ ρ1 ρ2 : Rho} {p : Pl} {ps : List Pl} (ha : a ρ = .ok p ρ1) (hr : r ρ1 = .ok ps ρ2) : cCons a r ρ = .ok (p :: ps) ρ2 := by
  unfold cCons
  simp only [ha, hr, R.bind]
theorem lst_ok {c : CA} {ρ ρ1 ρ2 : Rho} {ps : List Pl} {ds : List D} (h : c ρ = .ok ps ρ1) (hf : frzA ps ρ1 = some (ds, ρ2)) (hl : ds.length ≤ 16777216 := by simp) : cLst c ρ = .ok (.tmp (.list ds)) ρ2 := by
  unfold cLst
  simp only [h, R.bind, hf, hl, if_true]
theorem opAdd_tt {a b : List D} (h : a.length + b.length ≤ 16777216) : opAdd (.tuple a) (.tuple b) = some (.val (.tuple (a ++ b))) := if_pos h
theorem opAdd_ll {a b : List D} (h : a.length + b.length ≤ 16777216) : opAdd (.list a) (.list b) = some (.tmp (.list (a ++ b))) := if_pos h
theorem opMul_ii {i j : Int} (h : -1000000000 < i ∧ i < 1000000000) : opMul (.int i) (.int j) = some (.val (.int (i * j))) := by
  have : mulB i j = true := by
    unfold mulB
    simp only [Bool.or_eq_true, Bool.and_eq_true, decide_eq_true_eq]
    omega
  rw [opMul_i, if_pos this]
/-! ### comprehensions with a test -/
def elemT (g : D → Rho → Option Rho) (t : CB) (e : CE) (vs : List Nat) (ρ : Rho) (x : D) : Option (Option D × Rho) := match g x ρ with
  | some ρ1 => match t ρ1 with
    | .ok true ρ2 => match e ρ2 with
      | .ok p ρ3 => match frz p ρ3 with
        | some (d, ρ4) => if wipeOk ρ4 vs = true then some (some d, wipeR ρ4 vs) else none
        | none => none
      | _ => none
    | .ok false ρ2 => if wipeOk ρ2 vs = true then some (none, wipeR ρ2 vs) else none
    | _ => none
  | none => none
theorem compL_consT {g : D → Rho → Option Rho} {t : CB} {e : CE} {vs : List Nat} {ρ ρ' : Rho} {x : D} {o : Option D} {ds acc : List D} (h : elemT g t e vs ρ x = some (o, ρ')) (hl : acc.length < 16777216) :
    compL g t e vs (x :: ds) acc ρ = compL g t e vs ds (acc ++ o.toList) ρ' := by
  unfold elemT at h
  cases q : g x ρ with
  | none => simp only [q] at h; cases h
  | some ρ1 =>
    simp only [q] at h
    cases q1 : t ρ1 with
    | bad => simp only [q1] at h; cases h
    | exc y ρ3 => simp only [q1] at h; cases h
    | ok b ρ2 =>
      cases b with
      | false =>
        simp only [q1] at h
        by_cases hw : wipeOk ρ2 vs = true
        · rw [if_pos hw] at h
          simp only [Option.some.injEq, Prod.mk.injEq] at h
          obtain ⟨rfl, rfl⟩ := h
          simp only [compL, q, q1, hw, if_true, Option.toList, List.append_nil]
        · rw [if_neg hw] at h; cases h
      | true =>
        simp only [q1] at h
        cases q2 : e ρ2 with
        | bad => simp only [q2] at h; cases h
        | exc y ρ3 => simp only [q2] at h; cases h
        | ok p ρ3 =>
          simp only [q2] at h
          cases q3 : frz p ρ3 with
          | none => simp only [q3] at h; cases h
          | some w =>
            obtain ⟨d', ρ4⟩ := w
            simp only [q3] at h
            by_cases hw : wipeOk ρ4 vs = true
            · rw [if_pos hw] at h
              simp only [Option.some.injEq, Prod.mk.injEq] at h
              obtain ⟨rfl, rfl⟩ := h
              simp only [compL, q, q1, q2, q3, hl, hw, and_self, if_true, Option.toList]
            · rw [if_neg hw] at h; cases h
theorem compL_T {α : Type} {g : D → Rho → Option Rho} {t : CB} {e : CE} {vs : List Nat} {ρ : Rho} {f : α → D} {out : α → Option D} : ∀ (xs : List α) (acc : List D), acc.length + xs.length ≤ 16777216 → (∀ x, x ∈ xs → elemT g t e vs ρ (f x) = some (out x, ρ)) →
    compL g t e vs (xs.map f) acc ρ = .ok (acc ++ xs.filterMap out) ρ
  | [], acc, _, _ => by simp [compL]
  | x :: xs, acc, hl, h => by
    simp only [List.length_cons] at hl
    rw [List.map_cons, compL_consT (h x (List.mem_cons_self ..)) (by omega), compL_T xs _ (by cases out x <;> simp <;> omega) fun y hy => h y (List.mem_cons_of_mem _ hy)]
    cases q : out x <;> simp [q]
theorem comp_T {α : Type} {ci : CI} {g : D → Rho → Option Rho} {t : CB} {e : CE} {vs : List Nat} {ρ ρ1 : Rho} {xs : List α} {f : α → D} {out : α → Option D} (h1 : ci ρ = .ok (xs.map f) ρ1) (h2 : wipeOk ρ1 vs = true) (hl : xs.length ≤ 16777216)
    (h : ∀ x, x ∈ xs → elemT g t e vs (wipeR ρ1 vs) (f x) = some (out x, wipeR ρ1 vs)) : cComp ci g t e vs ρ = .ok (.tmp (.list (xs.filterMap out))) ρ1 := by
  unfold cComp
  simp only [h1, h2, if_true, compL_T xs [] (by simpa using hl) h, List.nil_append, back_wipe]
theorem rv_mkN {n m : Nat} {c : CS} {as : List (D × Md)} {ρ' : Rho} (hl : as.length = n) (h : c (as.map some ++ List.replicate (m - n) none) = .nx ρ') : (mkF n m c as).rv = some (.none, false) := by
  unfold mkF
  simp only [hl, if_true, h]; rfl
theorem drop_ok {c : CE} {ρ ρ1 : Rho} {p : Pl} (h : c ρ = .ok p ρ1) : cDrop c ρ = .nx ρ1 := by
  unfold cDrop
  simp only [h, R.toS]
theorem app_i {a : List D} {x : D} (h : a.length < 16777216) : fAppend (.list a) [x] = some (.list (a ++ [x]), .none) := if_pos h
theorem ext_l {a b : List D} (h : a.length + b.length ≤ 16777216) : fExtend (.list a) [.list b] = some (.list (a ++ b), .none) := if_pos h
theorem ext_t {a b : List D} (h : a.length + b.length ≤ 16777216) : fExtend (.list a) [.tuple b] = some (.list (a ++ b), .none) := if_pos h
/-! ### sums -/
theorem opNe_bool (a b : Bool) : opNe (.bool a) (.bool b) = some (.val (.bool (!(a == b)))) := by
  unfold opNe
  rw [if_pos ⟨rfl, rfl⟩, PyData.eqv]
end TN
namespace TN
open PySem PySem.Spec PyProof.Rows L2

/-! ### webs, steps: what many laws look at -/
def cc_check_place : CS := (cIf (cOr (cNot (cTst (cCall MMWhole (cCons (cVar 1) cNil)))) (cOr (cTst (cBin opLt (cVar 1) (cLit (.int 0)))) (cTst (cBin opGe (cVar 1) (cBin opIx (cVar 0) (cLit (.int 0)))))))
  (cRaise "NoPlace")
  cSkip)
def MM_check_place : FM := mkF 2 2 cc_check_place
def ee_ties_at_1 : CE := (cVar 2)
def tt_ties_at_2 : CB := (cTst (cBin opIn (cVar 1) (cVar 3)))
def cc_ties_at : CS := (cSeq (cDrop (cCall MM_check_place (cCons (cVar 0) (cCons (cVar 1) cNil))))
  (cRet (cComp (cEnum (cBin opIx (cVar 0) (cLit (.int 1)))) (gTp 2 (gsCons (gNm 2) (gsCons (gNm 3) gsNil))) tt_ties_at_2 ee_ties_at_1 [2, 3])))
def MM_ties_at : FM := mkF 2 4 cc_ties_at
def webD (n : Nat) (ts : List (Nat × Nat)) : D := .tuple [.int (n : Nat), .tuple (ts.map tieD)]
def absI (i : Int) : Int := if i < 0 then -i else i
def steps (ns : List Int) (ts : List (Nat × Nat)) : List Int := ts.map fun t => absI (ns.getD t.1 0 - ns.getD t.2 0)
theorem web_ties (n : Nat) (ts : List (Nat × Nat)) : opIx (webD n ts) (.int 1) = some (.val (.tuple (ts.map tieD))) := rfl
theorem web_n (n : Nat) (ts : List (Nat × Nat)) : opIx (webD n ts) (.int 0) = some (.val (.int (n : Nat))) := rfl
theorem ix_ints {ns : List Int} {k : Nat} (h : k < ns.length) : opIx (.tuple (ns.map .int)) (.int (k : Nat)) = some (.val (.int (ns.getD k 0))) := by
  rw [opIx_t, atI_ints h]; rfl
theorem ix_intsL {ns : List Int} {k : Nat} (h : k < ns.length) : opIx (.list (ns.map .int)) (.int (k : Nat)) = some (.val (.int (ns.getD k 0))) := by
  rw [opIx_l, atI_ints h]; rfl
/-! are_numbers -/
/-! steps_good -/
/-! ties_at, tie_counts -/
theorem place_call {ρ : Rho} {n : Nat} {ts : List (Nat × Nat)} {k : Nat} (hk : k < n) : callM MM_check_place [.val (webD n ts), .val (.int (k : Nat))] ρ = .ok (.val .none) ρ := by
  have key : (MM_check_place [(webD n ts, .fz), (.int (k : Nat), .fz)]).rv = some (.none, false) := ?_
  · exact callM_rv rfl rfl key
  refine rv_mkN (ρ' := [some (webD n ts, .fz), some (.int (k : Nat), .fz)]) rfl ?_
  have h1 : ¬ ((k : Int) < 0) := by omega
  have h2 : ¬ ((n : Int) ≤ (k : Int)) := by omega
  have f1 : opLt (.int (k : Nat)) (.int 0) = some (.val (.bool false)) := by
    show some (Pl.val (.bool (decide ((k : Int) < 0)))) = _
    rw [decide_eq_false h1]
  have f2 : opGe (.int (k : Nat)) (.int (n : Nat)) = some (.val (.bool false)) := by
    show some (Pl.val (.bool (decide ((n : Int) ≤ (k : Int))))) = _
    rw [decide_eq_false h2]
  show cc_check_place [some (webD n ts, .fz), some (.int (k : Nat), .fz)] = .nx [some (webD n ts, .fz), some (.int (k : Nat), .fz)]
  exact if_no (or_no (not_ok (b := true) (tst_ok (call1_ok (var_fz rfl) (whole_call _)) rfl)) (or_no (tst_ok (bin_ok (var_fz rfl) rfl rfl rfl f1) rfl) (tst_ok (bin_ok (var_fz rfl) (bin_ok (var_fz rfl) rfl rfl rfl (web_n n ts)) rfl rfl f2) rfl))) rfl
def hasP (t : Nat × Nat) (k : Nat) : Bool := t.1 == k || t.2 == k
theorem in_tie (t : Nat × Nat) (k : Nat) : opIn (.int (k : Nat)) (tieD t) = some (.val (.bool (hasP t k))) := by
  have h : SeqAt.shaped (.int (k : Nat)) = true ∧ SeqAt.shaped (tieD t) = true := ⟨rfl, shaped_tints [(t.1 : Int), (t.2 : Int)]⟩
  unfold tieD at h ⊢
  unfold opIn seqOf
  have e : ∀ a b : Nat, ((a : Int) == (b : Int)) = (a == b) := fun a b => by
    rw [Bool.eq_iff_iff, beq_iff_eq, beq_iff_eq]
    omega
  simp only [if_pos h, List.any_cons, List.any_nil, PyData.eqv, hasP, e, Bool.or_false]
def idxs (ts : List (Nat × Nat)) (k : Nat) : List D := ts.zipIdx.filterMap fun p => if hasP p.1 k = true then some (.int (p.2 : Nat)) else none
def deg (ts : List (Nat × Nat)) (k : Nat) : Nat := ts.countP fun t => hasP t k
theorem ties_run {n : Nat} {ts : List (Nat × Nat)} (h : WebOk n ts) {k : Nat} (hk : k < n) : (MM_ties_at [(webD n ts, .fz), (.int (k : Nat), .fz)]).rv = some (.list (idxs ts k), true) := by
  refine rv_mkF rfl ?_
  show (cc_ties_at [some (webD n ts, .fz), some (.int (k : Nat), .fz), none, none]).rv = _
  refine seq_rv (drop_ok (call2_ok (var_fz rfl) (var_fz rfl) (place_call hk))) (ret_rvT (ρ1 := [some (webD n ts, .fz), some (.int (k : Nat), .fz), none, none]) ?_)
  have hen : enumD (ts.map tieD) = ts.zipIdx.map fun p => .tuple [.int (p.2 : Nat), tieD p.1] := by
    unfold enumD
    rw [List.mapIdx_eq_zipIdx_map, List.zipIdx_map, List.map_map]
    rfl
  refine comp_T (xs := ts.zipIdx) (f := fun p => .tuple [.int (p.2 : Nat), tieD p.1]) ?_ rfl (by simp; have := h.tl; omega) fun p hp => ?_
  · have h1 := bin_ok (f := opIx) (a := cVar 0) (b := cLit (.int 1)) (ρ := [some (webD n ts, .fz), some (.int (k : Nat), .fz), none, none]) (var_fz rfl) rfl rfl rfl (web_ties n ts)
    unfold cEnum cFz
    simp only [h1, TN.R.bind, frz, seqOf, Option.map_some, hen]
  · have hg : gTp 2 (gsCons (gNm 2) (gsCons (gNm 3) gsNil)) (.tuple [.int (p.2 : Nat), tieD p.1]) [some (webD n ts, .fz), some (.int (k : Nat), .fz), none, none] = some [some (webD n ts, .fz), some (.int (k : Nat), .fz), some (.int (p.2 : Nat), .fz), some (tieD p.1, .fz)] := by
      simp [mkF, RS.rv, FR.rv, cSeq, cIf, cTst, cSet, cRet, cRetN, retP, cBin, cUn, cFn, cCons, cNil, cVar, cLit, cUnp, gPut, gNm, gTp, gsCons, gsNil, cFz, cDrop, cSkip, cAnd, cOr, cNot, cAndV, cOrV, cNotV, cIte, cTup, cLst, cCall, cPar, cAugI, cMutL, cMut, TN.R.bind, TN.R.toS, TN.R.toSB, look, lookA, TN.R.ofOpt, store, canSet, frzA, frz, plR, ownAt, opAdd_i, opAdd_t, opAdd_l, opAdd_s, opSub_i, opMul_i, opMod_i, opDiv_i, opPow_i, opNeg_i, opEq_int, opNe_int, opLt_i, opIx_l, opIx_t, opIsN_i, opNotN_i, fLen_l, fLen_t, fInt_i, fInt_b, fMax2_i, fMin2_i, fTuple_l, fTuple_t, fList_l, fList_t, fAppend_i, fExtend_l, fExtend_t, putA_i, cPart, cNoPart, cSl, opSl_l, opSl_t]
    have ht : tt_ties_at_2 [some (webD n ts, .fz), some (.int (k : Nat), .fz), some (.int (p.2 : Nat), .fz), some (tieD p.1, .fz)] = .ok (hasP p.1 k) _ := tst_ok (bin_ok (var_fz rfl) (var_fz rfl) rfl rfl (in_tie p.1 k)) rfl
    have he : ee_ties_at_1 [some (webD n ts, .fz), some (.int (k : Nat), .fz), some (.int (p.2 : Nat), .fz), some (tieD p.1, .fz)] = .ok (.val (.int (p.2 : Nat))) _ := var_fz rfl
    show elemT _ _ _ _ [some (webD n ts, .fz), some (.int (k : Nat), .fz), none, none] _ = some (_, [some (webD n ts, .fz), some (.int (k : Nat), .fz), none, none])
    unfold elemT
    simp only [hg, ht]
    cases hasP p.1 k with
    | true => simp only [he, frz]; rfl
    | false => rfl
/-! lists of ties -/
theorem ties_depth : ∀ ts : List (Nat × Nat), PyData.depthAll (ts.map tieD) ≤ 1
  | [] => by simp [PyData.depthAll]
  | t :: ts => by
    have := ties_depth ts
    simp only [List.map_cons, PyData.depthAll, tieD, PyData.depth]
    omega
theorem ties_lay : ∀ ts : List (Nat × Nat), PyData.canLayAll0 (ts.map tieD) = true
  | [] => by simp [PyData.canLayAll0]
  | t :: ts => by simp [PyData.canLayAll0, PyData.canLay0, tieD, ties_lay ts]
theorem shaped_ties (ts : List (Nat × Nat)) : SeqAt.shaped (.list (ts.map tieD)) = true := by
  have := ties_depth ts
  unfold SeqAt.shaped
  simp only [PyData.canLay0, ties_lay, PyData.depth, Bool.true_and]
  exact decide_eq_true (by omega)
end TN
namespace TN
open PySem PySem.Spec PyProof.Rows L2
/-! ### is, is not: truths and None -/
end TN
namespace TN
open PySem PySem.Spec PyProof.Rows L2

/-! ### a list of a name's own gone through, and the name's own still behind -/
section
variable {K : PySem.W.Frag} {L : L2.St} {B G G1 H H1 : Hp} {σ : L2.St} {ρ : Rho} {a : Addr} {o : HO} {xs : List V} {ds : List D} {j : Nat} {m : Md}
theorem Rel.hold (r : Rel K L B σ ρ G H) (q : ρ[j]? = some (some (.list ds, m))) (hm : m.isFz = false) : ∃ a xs, σ[j]? = some (some (.ref a)) ∧ G a = none ∧ B a = none ∧ H a = some (.lst xs) ∧ FzA K G xs ds ∧
    Rel K (L.set j none) (upd B a (.lst xs)) σ (ρ.set j none) G H ∧ ∀ v, L[j]? = some (some v) → σ[j]? = some (some v) ∧ (m = .lent ∨ m = .lz) := by
  obtain ⟨v, hv, hs⟩ := r.slots j _ q
  obtain ⟨a, rfl, hG, hB, c⟩ := hs.own hm
  cases c with
  | @lst xs _ hH fx =>
  have hlt : j < ρ.length := (List.getElem?_eq_some_iff.mp q).1
  have out : ∀ {i : Nat} {p : D × Md}, (ρ.set j none)[i]? = some (some p) → i ≠ j ∧ ρ[i]? = some (some p) := fun {i p} h => by
    by_cases hj : i = j
    · subst hj; rw [List.getElem?_set_self hlt] at h; cases h
    · rw [List.getElem?_set_ne (Ne.symm hj)] at h; exact ⟨hj, h⟩
  have r0 : Rel K (L.set j none) B σ (ρ.set j none) G H := by
    refine ⟨r.sub, r.base, by simpa using r.len, fun i p hp => r.slots i p (out hp).2, fun i k p p' w hik hp hp' hf hf' hw => r.sep i k p p' w hik (out hp).2 (out hp').2 hf hf' hw, fun i w hw => ?_⟩
    have hij : i ≠ j := fun z => by
      subst z
      by_cases hl : i < L.length
      · rw [List.getElem?_set_self hl] at hw; cases hw
      · rw [List.getElem?_eq_none (by simpa using hl)] at hw; cases hw
    rw [List.getElem?_set_ne (Ne.symm hij)] at hw
    obtain ⟨h1, d1, m1, h2, h3⟩ := r.lent i w hw
    exact ⟨h1, d1, m1, by rw [List.getElem?_set_ne (Ne.symm hij)]; exact h2, h3⟩
  refine ⟨a, xs, hv, hG, hB, hH, fx, r0.addB hB hH fun i p hp hf hw => ?_, fun w hw => ?_⟩
  · obtain ⟨hij, hp'⟩ := out hp
    exact r.sep i j p (.list ds, m) (.ref a) hij hp' q hf hm hw hv
  · obtain ⟨h1, d1, m1, h2, h3⟩ := r.lent j w hw
    rw [q] at h2; cases h2
    exact ⟨h1, h3⟩
end
section
variable {X : Cx} {elt tg iter : Expr} {ifs : List Expr} {scope : Scope} {own : List (Str × Nat)} {pos : Pos} {ci : CI} {g : D → Rho → Option Rho} {t : CB} {e : CE}
variable {ws : List Nat} {x y : Str} {py px spos : Pos} {j : Nat}
end
end TN
namespace TN
open PySem PySem.Spec PyProof.Rows L2

/-! ### chains of three: a op b op c op d -/
section
variable {X : Cx} {a b c d : Expr} {ta tb tc td : TE} {pos : Pos} {op op' op'' : CmpOp} {r r' r'' : R2}
end
/-- behind the first comparison, q's value in hand -/
def cLink (f g : D → D → Option Pl) (q : Pl) (c d : CE) : CE := fun ρ2 => (c ρ2).bind fun r ρ3 => match look q ρ3, look r ρ3 with
  | some y, some z => match f y z with
    | some (.val (.bool true)) => (d ρ3).bind fun s ρ4 => match look r ρ4, look s ρ4 with
      | some z, some w => .ofOpt (g z w) ρ4
      | _, _ => .bad
    | some (.val (.bool false)) => .ok (.val (.bool false)) ρ3
    | _ => .bad
  | _, _ => .bad
def cChain3 (e f g : D → D → Option Pl) (a b c d : CE) : CE := fun ρ => (a ρ).bind fun p ρ1 => (b ρ1).bind fun q ρ2 => match look p ρ2, look q ρ2 with
  | some x, some y => match e x y with
    | some (.val (.bool true)) => cLink f g q c d ρ2
    | some (.val (.bool false)) => .ok (.val (.bool false)) ρ2
    | _ => .bad
  | _, _ => .bad
section
variable {X : Cx} {a b c d : Expr} {ca cb cc cd : CE} {pos : Pos} {op op' op'' : CmpOp} {r r' r'' : R2} {e f g : D → D → Option Pl}
end
end TN
namespace TN
open PySem PySem.Spec PyProof.Rows L2
/-! ### <, >= of tuples of ints -/
end TN
namespace TN
open PySem PySem.Spec PyProof.Rows L2

/-! ### webs by drawn ties -/
/-! more steps -/
/-! the dict of ties -/
def dictD (F : List (Nat × Nat)) : D := .dict ((.none, .none) :: F.map fun t => (tieD t, .bool true))
def addT (F : List (Nat × Nat)) (t : Nat × Nat) : List (Nat × Nat) := if t ∈ F then F else F ++ [t]
theorem tk_tie (t u : Nat × Nat) : (tkOf (tieD t) = some [.inl (u.1 : Int), .inl (u.2 : Int)]) ↔ t = u := by
  have : tkOf (tieD t) = some [.inl (t.1 : Int), .inl (t.2 : Int)] := rfl
  rw [this]
  obtain ⟨a, b⟩ := t
  obtain ⟨c, d⟩ := u
  simp
  omega
theorem lookT_tie (u : Nat × Nat) : ∀ F : List (Nat × Nat), lookT (F.map fun t => (tieD t, PyData.bool true)) [.inl (u.1 : Int), .inl (u.2 : Int)] = if u ∈ F then some (.bool true) else none
  | [] => rfl
  | t :: F => by
    simp only [List.map_cons, lookT, tk_tie, lookT_tie u F, List.mem_cons]
    by_cases h : t = u
    · simp [h]
    · simp [h, Ne.symm h]
theorem put_tie {F : List (Nat × Nat)} (t : Nat × Nat) (h : F.length < 16777216) : putA (dictD F) (tieD t) (.bool true) = some (dictD (addT F t)) := by
  have hk : tkOf (tieD t) = some [.inl (t.1 : Int), .inl (t.2 : Int)] := rfl
  show (dPut ((.none, .none) :: F.map fun t => (tieD t, PyData.bool true)) (tieD t) (.bool true)).map PyData.dict = _
  unfold dPut
  simp only [hk, List.length_map, h, if_true, Option.map_some]
  unfold putT addT dictD
  rw [lookT_tie]
  by_cases hm : t ∈ F
  · simp only [hm, if_true, Option.isSome]
    congr 2
    rw [List.map_map, List.cons.injEq]
    refine ⟨rfl, List.map_congr_left fun u hu => ?_⟩
    show (if tkOf (tieD u) = _ then _ else _) = _
    split <;> rfl
  · simp [hm, tkD, keyD, tieD]
theorem fLen_dict (F : List (Nat × Nat)) : fLen [dictD F] = some (.val (.int (F.length : Nat))) := by
  simp [fLen, dictD, dLen]
structure Ties (n : Nat) (F : List (Nat × Nat)) : Prop where
  lt : ∀ t ∈ F, t.1 < t.2 ∧ t.2 < n
  nd : F.Nodup
theorem sortT_perm (F : List (Nat × Nat)) : (sortT F).Perm F := List.mergeSort_perm _ _
theorem sortT_run (F : List (Nat × Nat)) (h : F.length ≤ 1000) : fSorted [.list (F.map tieD)] = some (.tmp (.list ((sortT F).map tieD))) := by
  cases hF : F with
  | nil => simp [fSorted, sortDs, intsOf, sortI, sortT]
  | cons t ts =>
    rw [← hF]
    have hi : intsOf (F.map tieD) = none := by rw [hF]; rfl
    have ho : sortOk (F.map tieD) = true := by
      simp only [sortOk, Bool.and_eq_true, Bool.or_eq_true, decide_eq_true_eq, List.all_map, List.length_map]
      refine ⟨⟨⟨?_, .inl ?_⟩, ?_⟩, by omega⟩
      · simp [PySem.W.alike, PySem.W.alikeAll, tieD]
      · simp [tup1, tieD]
      · simp [PyData.canLay0, PyData.canLayAll0, PyData.depth, PyData.depthAll, tieD]
    have : (F.map tieD).mergeSort dLe = (sortT F).map tieD := (PySem.W.sort_maps (s := dLe) tieD fun a _ b _ => rfl).symm
    simp only [fSorted, sortDs, hi, ho, if_true, Option.map_some, this]
end TN
namespace TN
open PySem PySem.Spec PyProof.Rows L2

/-! ### sums at places -/
theorem put_i {xs : List Int} {k : Nat} (h : k < xs.length) (v : Int) : putA (.list (xs.map .int)) (.int (k : Nat)) (.int v) = some (.list ((xs.set k v).map .int)) := by
  have hx : ixN (xs.map PyData.int).length (k : Int) = some k := by
    unfold ixN
    simp [h]
  rw [putA_i, hx, List.map_set]
theorem fSorted_t (ns : List Int) (h : ns.length ≤ 16777216) : fSorted [.tuple (ns.map .int)] = some (.tmp (.list ((sortI ns).map .int))) := by
  simp only [fSorted, sortDs, intsOf_map, h, if_true, Option.map_some]
/-! all unlike -/
theorem dd_le : ∀ (xs acc : List Int), (xs.foldl step_dedup acc).length ≤ acc.length + xs.length
  | [], acc => by simp
  | x :: xs, acc => by
    have h := dd_le xs (step_dedup acc x)
    have h2 : (step_dedup acc x).length ≤ acc.length + 1 := by unfold step_dedup; split <;> simp
    simp only [List.foldl_cons, List.length_cons]
    omega
theorem dd_all : ∀ (xs acc : List Int), (xs.foldl step_dedup acc).length = acc.length + xs.length ↔ xs.Nodup ∧ ∀ x ∈ xs, x ∉ acc
  | [], acc => by simp
  | x :: xs, acc => by
    have h := dd_all xs (step_dedup acc x)
    have hle := dd_le xs (step_dedup acc x)
    simp only [List.foldl_cons, List.length_cons, List.nodup_cons]
    by_cases hx : acc.any (· == x) = true
    · have hm : x ∈ acc := by
        obtain ⟨y, hy, e⟩ := List.any_eq_true.mp hx
        have : y = x := by simpa using e
        rwa [← this]
      have e : step_dedup acc x = acc := by unfold step_dedup; rw [if_pos hx]
      rw [e] at hle ⊢
      constructor
      · intro z; omega
      · intro z; exact absurd hm (z.2 x (List.mem_cons_self ..))
    · have hm : x ∉ acc := fun z => hx (List.any_eq_true.mpr ⟨x, z, by simp⟩)
      have hl : (step_dedup acc x).length = acc.length + 1 := by unfold step_dedup; rw [if_neg hx]; simp
      have hmem : ∀ y, y ∈ step_dedup acc x ↔ y ∈ acc ∨ y = x := by
        intro y
        unfold step_dedup
        rw [if_neg hx]
        simp [or_comm]
      rw [hl] at h
      rw [show acc.length + (xs.length + 1) = acc.length + 1 + xs.length from by omega, h]
      constructor
      · rintro ⟨h1, h2⟩
        refine ⟨⟨fun z => (h2 x z) ((hmem x).mpr (.inr rfl)), h1⟩, fun y hy => ?_⟩
        rcases List.mem_cons.mp hy with rfl | hy
        · exact hm
        · exact fun z => h2 y hy ((hmem y).mpr (.inl z))
      · rintro ⟨⟨h1, h2⟩, h3⟩
        refine ⟨h2, fun y hy z => ?_⟩
        rcases (hmem y).mp z with z | rfl
        · exact h3 y (List.mem_cons_of_mem _ hy) z
        · exact h1 hy
theorem dd_nd (xs : List Int) : (ddI xs).length = xs.length ↔ xs.Nodup := by
  have := dd_all xs []
  simpa [ddI] using this
end TN
namespace TN
open PySem PySem.Spec PyProof.Rows L2

/-! ### a drawn order -/
/-! the last of a list, put -/
end TN
namespace TN
open PySem PySem.Spec PyProof.Rows L2

/-! ### squares by drawn turns -/
structure Sq (N : List (List Int)) : Prop where
  pos : 1 ≤ N.length
  le : N.length ≤ 7
  row : ∀ r ∈ N, r.length = N.length
def rot (one other : Nat) (N : List (List Int)) : List (List Int) := (N.drop one ++ N.take one).map fun r => r.drop other ++ r.take other
def mk (n : Nat) : List (List Int) := (List.range n).map fun (row : Nat) => (List.range n).map fun (k : Nat) => (n : Int) * (((row : Int) + 2 * (k : Int)) % n) + ((row : Int) + 3 * (k : Int)) % n + 1
/-- as lsg, to be counted out -/
def lsq (N : List (List Int)) : Bool := N.flatten.isPerm (rgI 1 ((N.flatten.length : Int) + 1)) && (List.range N.length).all fun k => decide ((N.getD k []).sum = (N.getD 0 []).sum) && decide ((N.map fun r => r.getD k 0).sum = (N.getD 0 []).sum)
def Small (N : List (List Int)) : Prop := ∀ r ∈ N, ∀ x ∈ r, 0 ≤ x ∧ x < 1000
structure Fine (N : List (List Int)) : Prop where
  sq : Sq N
  sm : Small N
  all : ∀ one other : Nat, one < N.length → other < N.length → lsq (rot one other N) = true
end TN
namespace TN
open PySem PySem.Spec PyProof.Rows L2
/-! ### comprehensions that draw; held ones -/
/-! cuts of lists -/
/-- the cells that a law goes through -/
theorem cells_it {ρ : Rho} {ns : List Int} (k : Nat) (h0 : ρ[0]? = some (some (.list (ns.map .int), .fz))) (hn : ns.length ≤ 63) :
    cIt (cBin opAdd (cLst (cCons (cCall MMCell (cCons (cVar 0) (cCons (cLit (.int 0)) cNil))) cNil)) (cSl (cVar 0) (cPart (cLit (.int 1))) (cPart (cLit (.int (k : Nat)))))) ρ = .ok ((cellAt ns 0 :: (ns.take k).drop 1).map .int) ρ := by
  have c1 := cut_mid (ns.map PyData.int) 1 k
  have hsl : cSl (cVar 0) (cPart (cLit (.int 1))) (cPart (cLit (.int (k : Nat)))) ρ = .ok (.tmp (.list (((ns.take k).drop 1).map .int))) ρ := by
    unfold cSl cPart cLit
    simp only [var_fz h0, TN.R.bind, look, opSl_l, TN.R.ofOpt]
    rw [show ((1 : Int)) = ((1 : Nat) : Int) from rfl, c1, List.map_drop, List.map_take]
  refine it_tmp (bin_ok (lst_ok (ar_cons (call2_ok (var_fz h0) rfl (cell_call ns 0)) ar_nil) rfl) hsl rfl rfl (opAdd_ll ?_)) rfl
  simp; omega
end TN
namespace TN
open PySem PySem.Spec PyProof.Rows L2

/-! ### raise X() -/
theorem pmk_own0 {X : Cx} {C : Addr} {bmB : List Value} {B newId initId : String} {x : Str} {p pos : Pos} (F : ExcBaseFacts B newId initId bmB) (q : PySem.W.excIn X.K C bmB newId = true) (gC : X.mg x = some (.ref C)) (kC : PySem.W.keepIn X.K (.ref C) = true) (r : Raises X (.ref C)) (hg : Gl X x)
    (hdb : (x == ("__debug__" : Str)) = false := by decide) : PMk X (.Call (.Name x p) [] [] pos) (fun _ H Q => Q (.ref C) none H) := by
  intro pins s σ H Q I h
  refine wpAny_Call_Name_kw (ld_glob I hg gC ?_ hdb)
  refine PySem.W.callWith_K0 I.kIn kC ?_
  show wpAny _ _ (call (.ref C) []) _ _ _
  obtain ⟨bm, N, nm, qn, bs, hdct, sn, sub, ab, col, dd, k0, k1, k2, k3, k5, mN, hC, hN, hni, T⟩ := exc_obj I.kIn q
  refine wpAny_call_exc_subT F T hC hN hni (fun h' e hm => ?_) (by show 0 ≤ sizeLine; exact Nat.zero_le _)
  exact mk_of I hm r h (I.hok.gone hm.new)
theorem ss_raise0 {X : Cx} {x : Str} {p pos pos' : Pos} (hc : X.calm = true) (hg : Gl X x) (hm : X.mg x = some (.ref (He.ga X.K x))) (c : (He.Fa.exc x).ok X.K = true) (hdb : (x == ("__debug__" : Str)) = false := by decide) :
    SS X (.Raise (some (.Call (.Name x p) [] [] pos)) none pos') (cRaise x) := fun W tk _ => by
  obtain ⟨c1, c2, c3, c4⟩ := He.exc_ok c
  refine PSimp (ps_raise hc tk (pmk_own0 PySem.F.excBase_ValueError c1 hm c2 (raises_own c3 c4) hg hdb)) ?_
  rintro Dn σ H ⟨L, ρ, G, B, rel, h⟩
  exact h _ none σ H G rel .refl ⟨_, hm, rfl, .inl ⟨rfl, rfl⟩⟩

/-! ### a caught exception is tracked -/
/-! ### try: body, except x as n: suite; n holds the exception, frozen -/
section
variable {X : Cx} {x n : Str} {c : Value} {i : Nat} {body suite : List Stmt} {b₀ : Stmt} {np pos pos' : Pos} {tb : WX → TS} {ts : TS} {Wout : WX}
end

/-! ### what is known of the classes -/
structure ExX (K : PySem.W.Frag) (mg : Str → Option Value) (cs : List Str) (x : Str) : Prop where
  glo : mg x = some (.ref (He.ga K x))
  c1 : exC K (He.ga K x) = true
  c2 : exT K (He.ga K x) = true
  tie : PySem.W.exmOne K (.ref (He.ga K x)) (.ref (He.ga K ("TieError" : Str))) = some true
  val : PySem.W.kitOne K (.ref (He.ga K x)) (.type "ValueError") = some true
  one : ∀ y ∈ cs, PySem.W.kitOne K (.ref (He.ga K x)) (.ref (He.ga K y)) = some (x == y)
structure ExS (K : PySem.W.Frag) (mg : Str → Option Value) (cs : List Str) : Prop where
  tie : mg ("TieError" : Str) = some (.ref (He.ga K ("TieError" : Str)))
  all : ∀ x ∈ cs, ExX K mg cs x
theorem exS_of {K : PySem.W.Frag} {h : Heap} {mg : Str → Option Value} {cs : List Str} (X : K.In h) (G : h.Ns mainGlobals mg) (c : exAll cs K = true) : ExS K mg cs := by
  unfold exAll at c
  obtain ⟨c1, c2⟩ := He.ba c
  refine ⟨PySem.W.mg_of X G (He.eqO_ok c1), fun x hx => ?_⟩
  have q := List.all_eq_true.mp c2 x hx
  unfold exB at q
  obtain ⟨q1, q⟩ := He.ba q
  obtain ⟨q2, q⟩ := He.ba q
  obtain ⟨q3, q⟩ := He.ba q
  obtain ⟨q4, q⟩ := He.ba q
  obtain ⟨q5, q6⟩ := He.ba q
  exact ⟨PySem.W.mg_of X G (He.eqO_ok q1), q2, q3, of_decide_eq_true q4, of_decide_eq_true q5, fun y hy => of_decide_eq_true (List.all_eq_true.mp q6 y hy)⟩

/-! ### the catch -/
def cTry (cs : List Str) (i : Nat) (cb ch : CS) : CS := fun ρ => match cb ρ with
  | .exc x ρ1 => if cs.contains x.cls = true ∧ canSet ρ1 i = true then (match ch (ρ1.set i (some (exD x.cls x.flds, .fz))) with
    | .nx ρ2 => if canSet ρ2 i = true then .nx (ρ2.set i none) else .bad
    | .ret d fr ρ2 => .ret d fr ρ2
    | _ => .bad) else .bad
  | r => r
end TN
namespace TN
open PySem PySem.Spec PyProof.Rows L2 L2H

/-! ### defs that are called while an exception is handled -/
theorem FnHot.mono {P : Program} {w : World} {K : PySem.W.Frag} {mg : Str → Option Value} {base : Heap} {CX : CXT} {j k : Nat} {f : Addr} {fd : FuncData} {ps : List Str} {sp : Sp} (F : FnHot P w K mg base CX j f fd ps sp) (h : j ≤ k) : FnHot P w K mg base CX k f fd ps sp :=
  ⟨F.len, fun A outer s H args us vs Q E hr => F.run A outer s H args us vs Q E (hr.mono h)⟩
section
variable {X : Cx} {k n : Nat} {f : Addr} {fd : FuncData} {pn : List Str} {M : FM} {x : Str} {p pos : Pos} {e : Expr} {es : List Expr} {cr : CA}
end
/-- a def by its meaning, called anywhere -/
structure CalleeH (P : Program) (w : World) (K : PySem.W.Frag) (mg : Str → Option Value) (base : Heap) (k : Nat) (x : Str) (n : Nat) (M : FM) : Prop where
  ex : ∃ (f : Addr) (fd : FuncData) (pn : List Str), FnHot P w K mg base (L2.CX P w) k f fd pn (spF K mg n M) ∧ mg x = some (.ref f) ∧ PySem.W.keepIn K (.ref f) = true ∧ Binds K fd pn []
theorem CalleeH.up {P : Program} {w : World} {K : PySem.W.Frag} {mg : Str → Option Value} {base : Heap} {k : Nat} {x : Str} {n : Nat} {M : FM} (c : CalleeH P w K mg base k x n M) {j : Nat} (h : k ≤ j) : CalleeH P w K mg base j x n M := by
  obtain ⟨f, fd, pn, h1, h2, h3, h4⟩ := c.ex
  exact ⟨f, fd, pn, h1.mono h, h2, h3, h4⟩
/-! ### isinstance(e, C), e a caught exception -/
section
variable {X : Cx} {cs : List Str} {x : Expr} {c : CE} {C : Str} {p p2 pos : Pos}
end
end TN
namespace TN
open PySem PySem.Spec PyProof.Rows L2

/-! ### the head, with what is known of the exceptions' classes -/
end TN
namespace TN
open PySem PySem.Spec PyProof.Rows L2
/-! exceptions, plainly -/
theorem shaped_str {a : Str} (h : PyData.strOk a = true := by decide +kernel) : SeqAt.shaped (.str a) = true := by simp [SeqAt.shaped, PyData.canLay0, PyData.depth, h]
theorem opEq_str (a b : Str) (ha : PyData.strOk a = true := by decide +kernel) (hb : PyData.strOk b = true := by decide +kernel) : opEq (.str a) (.str b) = some (.val (.bool (a == b))) := by
  unfold opEq
  rw [if_pos ⟨shaped_str ha, shaped_str hb⟩]
  simp [PyData.eqv]
/-! what is no place -/
end TN
namespace TN
open PySem PySem.Spec PyProof.Rows L2
end TN
namespace TN
open PySem PySem.Spec PyProof.Rows L2

/-! ### defs that hand out a tuple of values and of new lists -/
theorem UIs.mono {K : PySem.W.Frag} {G G' H H' B B' : Hp} (s : Same G G') (hG : ∀ a o, G a = none → H a = some o → (∀ us, o ≠ .tup us) → B a = none → G' a = none ∧ B' a = none ∧ H' a = some o) : ∀ {vs : List V} {is : UI}, UIs K G H B vs is → UIs K G' H' B' vs is
  | _, _, .nil => .nil
  | _, _, .cons h1 h2 h3 r => .cons (fun e => (h1 e).mono s) (fun e => by
      obtain ⟨a, e1, g1, b1, c1⟩ := h2 e
      obtain ⟨o, ho⟩ := c1.there
      obtain ⟨x1, x2, x3⟩ := hG a o g1 ho (fun us z => by subst z; exact c1.notTup ho) b1
      exact ⟨a, e1, x1, x2, (c1.heap fun o' e' => by rw [ho] at e'; cases e'; exact x3).mono s⟩) h3 (r.mono s hG)
abbrev FMU := List (D × Md) → R UI
def URes (K : PySem.W.Frag) (mg : Str → Option Value) (B G : Hp) (vs : List V) (as : List (D × Md)) (Q : VK) (E : XK) (r : R UI) : Prop := match r with
  | .ok is outs => ∀ (t : Addr) (us : List V) (H' G' : Hp), After K B G vs as outs G' H' → H' t = some (.tup us) → UIs K G' H' B us is →
      (∀ (i : Nat) (d1 : D) (w : V) (d2 : D) (j : Nat) (d' : D), as[i]? = some (d1, .lent) → vs[i]? = some w → outs[i]? = some (some (d2, .lent)) → us[j]? = some w → is[j]? = some (d', true) → False) → Q (.ref t) H'
  | .exc x outs => ∀ (cls : Value) (d : Option Addr) (H' G' : Hp), After K B G vs as outs G' H' →
      (∃ C : Addr, mg x.cls = some (.ref C) ∧ cls = .ref C ∧ ((x.flds = [] ∧ d = none) ∨ ∃ (dd : Addr) (fs : List (Str × V)), d = some dd ∧ H' dd = some (.xd fs) ∧ B dd = none ∧ FzN K G' fs x.flds)) → E cls d H'
  | .bad => False
def spU (K : PySem.W.Frag) (mg : Str → Option Value) (n : Nat) (M : FMU) : Sp := fun vs H Q E => ∃ (G B : Hp) (as : List (D × Md)), vs.length = n ∧ Same G H ∧ Same B H ∧ ArgsOk K G H B vs as ∧ URes K mg B G vs as Q E (M as)

/-! ### the displayed tuple: new lists stay new -/
section
variable {X : Cx} {e : Expr} {es : List Expr} {c : CE} {r : CA}
end

/-! ### the items -/
def itemsOf : List Pl → Rho → Option (UI × Rho)
  | [], ρ => some ([], ρ)
  | .val d :: ps, ρ => match itemsOf ps ρ with
    | some (is, ρ') => some ((d, false) :: is, ρ')
    | none => none
  | .tmp d :: ps, ρ => match itemsOf ps ρ with
    | some (is, ρ') => some ((d, true) :: is, ρ')
    | none => none
  | .slot i :: ps, ρ => match ρ[i]? with
    | some (some (d, .own)) => match itemsOf ps (ρ.set i none) with
      | some (is, ρ') => some ((d, true) :: is, ρ')
      | none => none
    | _ => none
structure ItemsOk (K : PySem.W.Frag) (L : L2.St) (B : Hp) (σ : L2.St) (ρ ρ2 : Rho) (G H : Hp) (vs : List V) (ps : List Pl) (is : UI) : Prop where
  rel : Rel K L B σ ρ2 G H
  its : UIs K G H B vs is
  sub : ∀ (j : Nat) (p : D × Md), ρ2[j]? = some (some p) → ρ[j]? = some (some p)
  sep : ∀ (j : Nat) (p : D × Md) (i : Nat) (w : V) (d : D), ρ2[j]? = some (some p) → p.2.isFz = false → vs[i]? = some w → is[i]? = some (d, true) → σ[j]? ≠ some (some w)
  src : ∀ (i : Nat) (w : V) (d : D), vs[i]? = some w → is[i]? = some (d, true) → (∃ (k : Nat) (d' : D), vs[k]? = some w ∧ ps[k]? = some (.tmp d')) ∨ ∃ (j : Nat) (d' : D), ρ[j]? = some (some (d', .own)) ∧ σ[j]? = some (some w)
/-! ### a body that ends with return (a, b, ..) -/
def uEval (c : CS) (ca : CA) (ρ : Rho) : R UI := match c ρ with
  | .nx ρ1 => match ca ρ1 with
    | .ok ps ρ2 => if ps.length ≤ 16777216 then (match itemsOf ps ρ2 with
      | some (is, ρ3) => .ok is ρ3
      | none => .bad) else .bad
    | .exc x ρ2 => .exc x ρ2
    | .bad => .bad
  | .exc x ρ1 => .exc x ρ1
  | _ => .bad
def GotU (X : Cx) (L : L2.St) (W : WX) (G B : Hp) (r : R UI) (Dn : Ends) : Prop := match r with
  | .ok is ρ' => ∀ (t : Addr) (us : List V) (σ' : L2.St) (H' G' : Hp), Rel X.K L B σ' ρ' G' H' → Ext B G G' → H' t = some (.tup us) → UIs X.K G' H' B us is →
      (∀ (j : Nat) (p : D × Md) (i : Nat) (w : V) (d' : D), ρ'[j]? = some (some p) → p.2.isFz = false → us[i]? = some w → is[i]? = some (d', true) → σ'[j]? ≠ some (some w)) → Dn.rt (.ref t) H'
  | .exc x ρ' => ∀ (cls : Value) (d : Option Addr) (σ' : L2.St) (H' G' : Hp), Rel X.K L B σ' ρ' G' H' → Ext B G G' → XcOk X B G' H' x cls d → W cls d σ' H'
  | .bad => False
theorem GotU.shift {X : Cx} {L : L2.St} {W : WX} {G G1 B : Hp} {r : R UI} {Dn : Ends} (e : Ext B G G1) (h : GotU X L W G B r Dn) : GotU X L W G1 B r Dn := by
  cases r with
  | ok is ρ' => exact fun t us σ' H' G' rel ext => h t us σ' H' G' rel (e.trans ext)
  | exc x ρ' => exact fun c d σ' H' G' rel ext ok => h c d σ' H' G' rel (e.trans ext) ok
  | bad => exact h
section
variable {X : Cx} {es : List Expr} {c : CS} {ca : CA} {pos pos' : Pos}
end
def mkFU (n m : Nat) (c : CS) (ca : CA) : FMU := fun as => if as.length = n then (match uEval c ca (as.map some ++ List.replicate (m - n) none) with
  | .ok is ρ => .ok is (ρ.take n)
  | .exc x ρ => .exc x (ρ.take n)
  | .bad => .bad) else .bad
section
variable {P : Program} {w : World} {K : PySem.W.Frag} {mg : Str → Option Value} {base : Heap} {x qual : Str} {params : Arguments} {body : List Stmt} {scope : Scope} {f : Addr} {fd : FuncData}
end
structure CalleeU (P : Program) (w : World) (K : PySem.W.Frag) (mg : Str → Option Value) (base : Heap) (k : Nat) (x : Str) (n : Nat) (M : FMU) : Prop where
  ex : ∃ (f : Addr) (fd : FuncData) (pn : List Str), FnOk P w K mg base (L2.CX P w) k f fd pn (spU K mg n M) ∧ mg x = some (.ref f) ∧ PySem.W.keepIn K (.ref f) = true ∧ Binds K fd pn []
theorem CalleeU.up {P : Program} {w : World} {K : PySem.W.Frag} {mg : Str → Option Value} {base : Heap} {k : Nat} {x : Str} {n : Nat} {M : FMU} (c : CalleeU P w K mg base k x n M) {j : Nat} (h : k ≤ j) : CalleeU P w K mg base j x n M := by
  obtain ⟨f, fd, pn, h1, h2, h3, h4⟩ := c.ex
  exact ⟨f, fd, pn, h1.mono h, h2, h3, h4⟩
/-! ### a, b, .. = f(..) -/
theorem GotS.args {X : Cx} {L : L2.St} {W : WX} {G B : Hp} {σ : L2.St} {r : R (List Pl)} {k : List Pl → Rho → RS} {Dn : Ends} (h : GotS X L W G B (match r with | .ok ps ρ1 => k ps ρ1 | .exc x ρ1 => .exc x ρ1 | .bad => .bad) Dn) :
    GotA X L W σ G B r (fun vs H1 => ∃ (ps : List Pl) (ρ1 : Rho) (G1 : Hp), r = .ok ps ρ1 ∧ Rel X.K L B σ ρ1 G1 H1 ∧ Ext B G G1 ∧ PlA X.K σ G1 vs ps ∧ GotS X L W G1 B (k ps ρ1) Dn) := by
  cases r with
  | ok p ρ1 => exact fun v H' G' rel ext ok => ⟨p, ρ1, G', rfl, rel, ext, ok, GotS.shift ext h⟩
  | exc x ρ' => exact fun c d H' G' rel ext ok => h c d σ H' G' rel ext ok
  | bad => exact h
end TN
namespace TN
open PySem PySem.Spec PyProof.Rows L2

/-! ### steps numberings, plainly -/
structure Gr (m : Nat) (T : List (Nat × Nat)) (N : List Int) : Prop where
  len : N.length = m
  pos : 1 ≤ m
  lt : ∀ t ∈ T, t.1 < m ∧ t.2 < m
  rng : ∀ x ∈ N, 0 ≤ x ∧ x ≤ (T.length : Int)
  nd : N.Nodup
  st : (steps N T).Perm (rgI 1 ((T.length : Int) + 1))
theorem rg_snoc (n : Nat) : rgI 1 (((n + 1 : Nat) : Int) + 1) = rgI 1 ((n : Int) + 1) ++ [(n : Int) + 1] := by
  unfold rgI
  rw [show (((n + 1 : Nat) : Int) + 1 - 1).toNat = n + 1 from by omega, show ((n : Int) + 1 - 1).toNat = n from by omega, List.range_succ, List.map_append]
  simp [Int.add_comm]
theorem getD_left {N : List Int} {x : Int} {i : Nat} (h : i < N.length) : (N ++ [x]).getD i 0 = N.getD i 0 := by
  simp only [List.getD_eq_getElem?_getD]
  rw [List.getElem?_append_left h]
theorem getD_end {N : List Int} {x : Int} {i : Nat} (h : i = N.length) : (N ++ [x]).getD i 0 = x := by
  subst h
  simp [List.getD_eq_getElem?_getD]
theorem steps_app {N : List Int} {x : Int} {T : List (Nat × Nat)} {t : Nat × Nat} (h : ∀ t ∈ T, t.1 < N.length ∧ t.2 < N.length) : steps (N ++ [x]) (T ++ [t]) = steps N T ++ [absI ((N ++ [x]).getD t.1 0 - (N ++ [x]).getD t.2 0)] := by
  unfold steps
  rw [List.map_append]
  congr 1
  refine List.map_congr_left fun t ht => ?_
  obtain ⟨h1, h2⟩ := h t ht
  rw [getD_left h1, getD_left h2]
theorem steps_len (N : List Int) (T : List (Nat × Nat)) : (steps N T).length = T.length := by simp [steps]
theorem gr_grow {m : Nat} {T : List (Nat × Nat)} {N : List Int} {k : Nat} (g : Gr m T N) (hk : k < m) (h0 : N.getD k 0 = 0) : Gr (m + 1) (T ++ [(k, m)]) (N ++ [(T.length : Int) + 1]) := by
  have hl := g.len
  refine ⟨by simp [hl], by omega, fun t ht => ?_, fun x hx => ?_, ?_, ?_⟩
  · rcases List.mem_append.mp ht with h | h
    · have := g.lt t h; omega
    · simp at h; subst h; exact ⟨by simp only; omega, by simp only; omega⟩
  · rcases List.mem_append.mp hx with h | h
    · have := g.rng x h; simp only [List.length_append, List.length_singleton]; omega
    · simp at h; subst h; simp only [List.length_append, List.length_singleton]; omega
  · rw [List.nodup_append]
    refine ⟨g.nd, by simp, fun a ha b hb => ?_⟩
    simp at hb; subst hb
    have := g.rng a ha
    omega
  · rw [steps_app (fun t ht => by rw [hl]; exact g.lt t ht), getD_left (by omega), h0, getD_end hl.symm]
    have e : absI (0 - ((T.length : Int) + 1)) = (T.length : Int) + 1 := by unfold absI; split <;> omega
    rw [e, show (T ++ [(k, m)]).length = T.length + 1 from by simp, rg_snoc]
    exact g.st.append_right _
theorem getD_map {N : List Int} {f : Int → Int} {i : Nat} (h : i < N.length) : (N.map f).getD i 0 = f (N.getD i 0) := by
  simp [List.getD_eq_getElem?_getD, h]
theorem gr_comp {m : Nat} {T : List (Nat × Nat)} {N : List Int} (g : Gr m T N) : Gr m T (N.map fun x => (T.length : Int) - x) := by
  refine ⟨by simp [g.len], g.pos, g.lt, fun x hx => ?_, ?_, ?_⟩
  · obtain ⟨y, hy, rfl⟩ := List.mem_map.mp hx
    have := g.rng y hy
    omega
  · refine List.Pairwise.map _ (fun a b hab => ?_) g.nd
    intro h; exact hab (by omega)
  · have : steps (N.map fun x => (T.length : Int) - x) T = steps N T := by
      unfold steps
      refine List.map_congr_left fun t ht => ?_
      obtain ⟨h1, h2⟩ := g.lt t ht
      rw [getD_map (by rw [g.len]; exact h1), getD_map (by rw [g.len]; exact h2)]
      unfold absI
      split <;> split <;> omega
    rw [this]; exact g.st
/-! ### the spine -/
structure Sp (last : Int) (k : Nat) (T : List (Nat × Nat)) (N : List Int) (hub : Nat) (lo hi side : Int) : Prop where
  tl : T.length = k
  nl : N.length = k + 1
  hb : hub < k + 1
  l1 : 1 ≤ lo
  cnt : lo + last - hi = k + 1
  hl : hi ≤ last
  use : ∀ x ∈ N, (0 ≤ x ∧ x < lo) ∨ (hi < x ∧ x ≤ last)
  nd : N.Nodup
  hn : N.getD hub 0 = if side = 1 then lo - 1 else hi + 1
  sd : side = 0 ∨ side = 1
  lt : ∀ t ∈ T, t.1 < k + 1 ∧ t.2 < k + 1
  st : steps N T = (List.range k).map fun i => last - (i : Nat)
  z : N.getD 0 0 = 0
end TN
namespace TN
open PySem PySem.Spec PyProof.Rows L2
/-! webs made with their steps numberings -/
def bb__law_ring_1 : CS := (cSeq (cSet 3 (cBin opDiv (cVar 2) (cLit (.int 2))))
  (cSeq (cIf (cTst (cBin opEq (cBin opMod (cVar 2) (cLit (.int 2))) (cLit (.int 1))))
  (cSet 3 (cBin opSub (cVar 0) (cVar 3)))
  cSkip)
  (cSeq (cIf (cAnd (cTst (cBin opGe (cBin opMul (cLit (.int 2)) (cVar 2)) (cVar 0))) (cTst (cBin opEq (cBin opMod (cBin opAdd (cVar 2) (cVar 0)) (cLit (.int 2))) (cLit (.int 1)))))
  (cSet 3 (cBin opSub (cBin opAdd (cVar 3) (cLit (.int 1))) (cBin opMul (cLit (.int 2)) (cBin opMod (cVar 2) (cLit (.int 2))))))
  cSkip)
  (cDrop (cMutL 1 fAppend (cCons (cVar 3) cNil))))))
def ee__law_ring_2 : CE := (cTup (cCons (cVar 2) (cCons (cBin opAdd (cVar 2) (cLit (.int 1))) cNil)))
def cc__law_ring : CS := (cSeq (cSet 1 (cLst cNil))
  (cSeq (cFor (cRng1 (cVar 0)) (gNm 2)
  bb__law_ring_1)
  cSkip))
def aa__law_ring : CA := (cCons (cVar 0) (cCons (cBin opAdd (cComp (cRng1 (cBin opSub (cVar 0) (cLit (.int 1)))) (gNm 2) tTrue ee__law_ring_2 [2]) (cLst (cCons (cTup (cCons (cLit (.int 0)) (cCons (cBin opSub (cVar 0) (cLit (.int 1))) cNil))) cNil))) (cCons (cVar 1) cNil)))
def MM__law_ring : FMU := mkFU 1 4 cc__law_ring aa__law_ring
def ee__law_sides_1 : CE := (cTup (cCons (cVar 3) (cCons (cBin opAdd (cVar 0) (cVar 4)) cNil)))
def bb__law_sides_2 : CS := (cDrop (cMutL 2 fExtend (cCons (cComp (cRng1 (cVar 1)) (gNm 4) tTrue ee__law_sides_1 [4]) cNil)))
def ee__law_sides_3 : CE := (cBin opMul (cVar 0) (cBin opAdd (cVar 4) (cLit (.int 1))))
def cc__law_sides : CS := (cSeq (cSet 2 (cLst cNil))
  (cSeq (cFor (cRng1 (cVar 0)) (gNm 3)
  bb__law_sides_2)
  cSkip))
def aa__law_sides : CA := (cCons (cBin opAdd (cVar 0) (cVar 1)) (cCons (cVar 2) (cCons (cBin opAdd (cLstRg (cRg1 (cVar 0))) (cComp (cRng1 (cVar 1)) (gNm 4) tTrue ee__law_sides_3 [4])) cNil)))
def MM__law_sides : FMU := mkFU 2 5 cc__law_sides aa__law_sides
end TN
namespace TN
open PySem PySem.Spec PyProof.Rows L2
/-! rings and sides -/
structure Gr0 (m : Nat) (T : List (Nat × Nat)) (N : List Int) : Prop where
  gr : Gr m T N
  z : N.getD 0 0 = 0
  tl : T.length ≤ 30
  ml : m ≤ 31
def ringT (n : Nat) : List (Nat × Nat) := ((List.range (n - 1)).map fun k => (k, k + 1)) ++ [(0, n - 1)]
def ringN (n : Nat) : List Int := (List.range n).map fun (place : Nat) =>
  let one : Int := (place : Int) / 2
  let one : Int := if place % 2 = 1 then (n : Int) - one else one
  if n ≤ 2 * place ∧ (place + n) % 2 = 1 then one + 1 - 2 * ((place : Int) % 2) else one
structure Ring (n : Nat) : Prop where
  gr : Gr0 n (ringT n) (ringN n)
  run : MM__law_ring [(.int (n : Nat), .fz)] = .ok [(.int (n : Nat), false), (.list ((ringT n).map tieD), true), (.list ((ringN n).map .int), true)] [some (.int (n : Nat), .fz)]
def sideT (a b : Nat) : List (Nat × Nat) := (List.range a).flatMap fun i => (List.range b).map fun j => (i, a + j)
def sideN (a b : Nat) : List Int := ((List.range a).map fun (i : Nat) => (i : Int)) ++ (List.range b).map fun (j : Nat) => (a : Int) * ((j : Int) + 1)
structure Side (a b : Nat) : Prop where
  gr : Gr0 (a + b) (sideT a b) (sideN a b)
  run : MM__law_sides [(.int (a : Nat), .fz), (.int (b : Nat), .fz)] = .ok [(.int ((a + b : Nat) : Int), false), (.list ((sideT a b).map tieD), true), (.list ((sideN a b).map .int), true)] [some (.int (a : Nat), .fz), some (.int (b : Nat), .fz)]
end TN
namespace TN
open PySem PySem.Spec PyProof.Rows L2
/-! renamed -/
end TN
namespace TN
open PySem PySem.Spec PyProof.Rows L2
structure Gr1 (m : Nat) (T : List (Nat × Nat)) (N : List Int) (b : Nat) : Prop where
  gr : Gr m T N
  z : N.getD 0 0 = 0
  tl : T.length ≤ 30 + b
  ml : m ≤ 31 + b
end TN
namespace TN
open PySem PySem.Spec PyProof.Rows L2
end TN
namespace TN
open PySem PySem.Spec PyProof.Rows L2
/-! dicts of whole numbers as sets -/
/-! a steps numbering, by dicts -/
theorem perm_of : ∀ {r m : List Int}, r.Nodup → (∀ x ∈ r, x ∈ m) → r.length = m.length → r.Perm m
  | [], m, _, _, h => by
    have : m = [] := List.length_eq_zero_iff.mp h.symm
    subst this; exact .nil
  | x :: r, m, hn, hs, h => by
    rw [List.nodup_cons] at hn
    have h1 := hs x (List.mem_cons_self ..)
    have ih := perm_of (r := r) (m := m.erase x) hn.2 (fun y hy => (List.mem_erase_of_ne (fun z : y = x => hn.1 (by rw [← z]; exact hy))).mpr (hs y (List.mem_cons_of_mem _ hy))) (by rw [List.length_erase_of_mem h1]; simp at h; omega)
    exact (ih.cons x).trans (List.perm_cons_erase h1).symm
theorem rg_mem {L : Nat} {x : Int} : x ∈ rgI 1 ((L : Int) + 1) ↔ 1 ≤ x ∧ x ≤ L := by
  unfold rgI
  simp only [List.mem_map, List.mem_range]
  constructor
  · rintro ⟨i, hi, rfl⟩; omega
  · rintro ⟨h1, h2⟩; exact ⟨(x - 1).toNat, by omega, by omega⟩
theorem rg_nodup (a b : Int) : (rgI a b).Nodup := by
  unfold rgI
  refine List.Pairwise.map _ (fun i j hij => ?_) (List.nodup_range (n := (b - a).toNat))
  intro z; exact hij (by omega)
end TN
namespace TN
open PySem PySem.Spec PyProof.Rows L2
/-! the look by dicts -/
end TN
namespace TN
open PySem PySem.Spec PyProof.Rows L2
/-! what is made of a numbering -/
theorem ix_tD {R : List D} {k : Nat} (h : k < R.length) : opIx (.tuple R) (.int (k : Nat)) = some (.val R[k]) := by
  rw [opIx_t, atI_nat R k R[k] (List.getElem?_eq_getElem h)]; rfl
theorem ix_lD {R : List D} {k : Nat} (h : k < R.length) : opIx (.list R) (.int (k : Nat)) = some (.val R[k]) := by
  rw [opIx_l, atI_nat R k R[k] (List.getElem?_eq_getElem h)]; rfl
end TN
namespace TN
open PySem PySem.Spec PyProof.Rows L2
/-! parted steps numberings -/
theorem shaped_tiesTL (ts : List (Nat × Nat)) : SeqAt.shaped (.tuple (ts.map tieD)) = true := by
  have := shaped_ties ts
  unfold SeqAt.shaped at this ⊢
  exact this
theorem opEq_ties_nil (x : Nat × Nat) (xs : List (Nat × Nat)) : opEq (.tuple ((x :: xs).map tieD)) (.tuple []) = some (.val (.bool false)) := by
  unfold opEq
  rw [if_pos ⟨shaped_tiesTL (x :: xs), shaped_tiesTL []⟩, PyData.eqv]
  rfl
/-! plainly -/
def lowE (ns : List Int) (t : Nat × Nat) : Int := if ns.getD t.2 0 < ns.getD t.1 0 then ns.getD t.2 0 else ns.getD t.1 0
def upE (ns : List Int) (t : Nat × Nat) : Int := if ns.getD t.2 0 > ns.getD t.1 0 then ns.getD t.2 0 else ns.getD t.1 0
def Par (ns : List Int) (ts : List (Nat × Nat)) (t : Int) : Prop := ∀ e ∈ ts, lowE ns e ≤ t ∧ t < upE ns e
theorem getD_memI {ns : List Int} {i : Nat} (h : i < ns.length) : ns.getD i 0 ∈ ns := by
  rw [List.getD_eq_getElem?_getD, List.getElem?_eq_getElem h]
  exact List.getElem_mem h
section
variable {n : Nat} {ts : List (Nat × Nat)} {ns : List Int}
theorem gr_ends (g : Gr n ts ns) {e : Nat × Nat} (he : e ∈ ts) : (0 ≤ ns.getD e.1 0 ∧ ns.getD e.1 0 ≤ (ts.length : Int)) ∧ (0 ≤ ns.getD e.2 0 ∧ ns.getD e.2 0 ≤ (ts.length : Int)) := by
  have hl := g.len
  have := g.lt e he
  exact ⟨g.rng _ (getD_memI (by omega)), g.rng _ (getD_memI (by omega))⟩
theorem gr_step (g : Gr n ts ns) {s : Int} (h1 : 1 ≤ s) (h2 : s ≤ (ts.length : Int)) : ∃ e ∈ ts, absI (ns.getD e.1 0 - ns.getD e.2 0) = s := by
  have := g.st.mem_iff.mpr (rg_mem.mpr ⟨h1, h2⟩)
  unfold steps at this
  simpa using this
/-- both sides turned about -/
def turn (L : Nat) (t : Int) (x : Int) : Int := if x ≤ t then t - x else (L : Int) + t + 1 - x
/-! what they compute -/
end
end TN
namespace TN
open PySem PySem.Spec PyProof.Rows L2

/-! ### exceptions with fields: what must be known of their classes -/
theorem oexB_ok {K : PySem.W.Frag} {C : Addr} (h : oexB K C = true) : OexC K C := by
  unfold oexB at h
  obtain ⟨q, h⟩ := He.ba h
  obtain ⟨h1, h⟩ := He.ba h
  obtain ⟨h2, h⟩ := He.ba h
  obtain ⟨h3, h4⟩ := He.ba h
  refine ⟨?_, of_decide_eq_true h1, of_decide_eq_true h2, of_decide_eq_true h3, h4⟩
  split at q
  · rename_i dd cd sl ho
    split at q
    · rename_i C' bm k0 k1 k2 k3 n k5 hm hs
      simp only [Bool.and_eq_true, beq_iff_eq, Bool.not_eq_true'] at q
      obtain ⟨rfl, rfl, hdel, hdict, ht⟩ := q
      obtain ⟨nm, bs, mro, ns, qn, hd, sn, sub, ab, col, del⟩ := cd
      dsimp only at hm hdel hdict
      subst hm hdel hdict
      have hsl : sl = #[k0, k1, k2, k3, some (.builtin "ValueError.__new__"), k5] := by
        obtain ⟨l⟩ := sl
        simp only at hs
        rw [hs]
      subst hsl
      exact ⟨nm, qn, ns, bs, bm, sn, sub, ab, col, dd, k0, k1, k2, k3, k5, ho, ht⟩
    · cases q
  · cases q
structure OxX (K : PySem.W.Frag) (x : Str) (fs : List Str) : Prop where
  oc : OexC K (He.ga K x)
  ini : PySem.W.findIn K (.ref (He.ga K x)) "__init__" = some (some (.ref (iniA K x)))
  fn : PySem.W.typeIn K (.ref (iniA K x)) = some (.type "function")
  fld : ∀ f ∈ fs, PySem.W.findIn K (.ref (He.ga K x)) f = some none
theorem ox_of {K : PySem.W.Frag} {rs : List (Str × List Str)} (h : oxAll rs K = true) {x : Str} {fs : List Str} (hx : (x, fs) ∈ rs) : OxX K x fs := by
  have q := List.all_eq_true.mp h _ hx
  unfold oxB at q
  obtain ⟨h1, q⟩ := He.ba q
  obtain ⟨h2, q⟩ := He.ba q
  obtain ⟨h3, h4⟩ := He.ba q
  exact ⟨oexB_ok h1, of_decide_eq_true h2, of_decide_eq_true h3, fun f hf => of_decide_eq_true (List.all_eq_true.mp h4 f hf)⟩
/-! ### the head -/
/-! ### making one -/
def putF {α : Type} : List Str → List α → List (Str × α) → List (Str × α)
  | f :: fs, v :: vs, acc => putF fs vs ((f, v) :: acc)
  | _, _, acc => acc
theorem FzN.put {K : PySem.W.Frag} {G : Hp} : ∀ {fs : List Str} {vs : List V} {ds : List D} {av : List (Str × V)} {ad : List (Str × D)}, FzA K G vs ds → FzN K G av ad → FzN K G (putF fs vs av) (putF fs ds ad)
  | [], _, _, _, _, _, h => by simpa [putF] using h
  | f :: fs, _, _, _, _, .nil, h => by simpa [putF] using h
  | f :: fs, _, _, _, _, .cons a b, h => FzN.put (fs := fs) b (.cons a h)
/-- the promise of __init__ -/
def spI (C : Addr) (fs : List Str) : L2.Sp := fun vs H Q _ => ∃ (a : Addr) (us : List V), vs = .ref a :: us ∧ us.length = fs.length ∧ H a = some (exo a C none) ∧ ∀ dx, H dx = none → dx ≠ a → Q .non (upd (upd H dx (exd dx (putF fs us []))) a (exo a C (some dx)))
structure RaiseA (P : Program) (w : World) (K : PySem.W.Frag) (mg : Str → Option Value) (base : Heap) (k : Nat) (x : Str) (fs : List Str) : Prop where
  ox : OxX K x fs
  glo : mg x = some (.ref (He.ga K x))
  ex : ∃ (fd : FuncData) (pn : List Str), FnOk P w K mg base (L2.CX P w) k (iniA K x) fd pn (spI (He.ga K x) fs) ∧ Binds K fd pn []
theorem RaiseA.up {P : Program} {w : World} {K : PySem.W.Frag} {mg : Str → Option Value} {base : Heap} {k : Nat} {x : Str} {fs : List Str} (c : RaiseA P w K mg base k x fs) {j : Nat} (h : k ≤ j) : RaiseA P w K mg base j x fs := by
  obtain ⟨fd, pn, h1, h2⟩ := c.ex
  exact ⟨c.ox, c.glo, fd, pn, h1.mono h, h2⟩
section
variable {P : Program} {w : World} {K : PySem.W.Frag} {mg : Str → Option Value} {base : Heap} {x qual : Str} {params : Arguments} {body : List Stmt} {scope : Scope} {fd : FuncData}
theorem raise1 {self p f : Str} {p1 p2 p3 pos : Pos} (F : FunD K "__init__" qual params body scope [] [] (iniA K x) fd) (S : FnScope [self, p] [self, p] scope) (O : OxX K x [f]) (hm : mg x = some (.ref (He.ga K x)))
    (hb : ∀ (kV doc pm : Value) (an : Option Addr) (cdv ct : Value) (us : List Value), us.length = 2 → bindArgs (PySem.W.fnOf "__init__" qual params body scope .none kV doc pm an cdv ct) ⟨us, []⟩ = pure ([self, p].zip us))
    (e : body = [.Assign [.Attribute (.Name self p1) f p2] (.Name p p3) pos])
    (h : ∀ (cdv : Value) (A : Around) (outer : List Env) (s : Shared) (H : Hp) (E : XK), PE (cxOf (L2.CX P w) P w K mg base [self, p] qual scope (iniA K x) cdv A outer s H E) (.Name self p1) (tVar 0) ∧ PE (cxOf (L2.CX P w) P w K mg base [self, p] qual scope (iniA K x) cdv A outer s H E) (.Name p p3) (tVar 1) ∧
      swapsWith (.Name p p3) (some (.Attribute (.Name self p1) f p2)) pos.line (cxOf (L2.CX P w) P w K mg base [self, p] qual scope (iniA K x) cdv A outer s H E).env = pure false) :
    RaiseA P w K mg base 1 x [f] := by
  refine ⟨O, hm, fd, [self, p], F.ok S (fun vs H Q E hs => ?_) (fun cdv A outer s H vs Q E hr hs => ?_), F.bindsN (ps := [self, p]) hb⟩
  · obtain ⟨a, us, rfl, hl, _⟩ := hs
    simpa using hl
  · obtain ⟨a, us, rfl, hl, ha, hq⟩ := hs
    obtain ⟨h1, h2, h3⟩ := h cdv A outer s H E
    match us, hl with
    | [v], _ =>
      refine ⟨_, e ▸ pss_cons (ps_ost h1 h2 h3) pss_nil, ?_⟩
      refine ⟨v, rfl, .ref a, rfl, a, _, rfl, O.oc, O.fld f (List.mem_cons_self ..), .inl ⟨ha, fun dx h4 h5 => ?_⟩⟩
      exact hq dx h4 h5
theorem raise2 {self p q f g : Str} {p1 p2 p3 pos p4 p5 p6 pos' : Pos} (F : FunD K "__init__" qual params body scope [] [] (iniA K x) fd) (S : FnScope [self, p, q] [self, p, q] scope) (O : OxX K x [f, g]) (hm : mg x = some (.ref (He.ga K x)))
    (hb : ∀ (kV doc pm : Value) (an : Option Addr) (cdv ct : Value) (us : List Value), us.length = 3 → bindArgs (PySem.W.fnOf "__init__" qual params body scope .none kV doc pm an cdv ct) ⟨us, []⟩ = pure ([self, p, q].zip us))
    (e : body = [.Assign [.Attribute (.Name self p1) f p2] (.Name p p3) pos, .Assign [.Attribute (.Name self p4) g p5] (.Name q p6) pos'])
    (h : ∀ (cdv : Value) (A : Around) (outer : List Env) (s : Shared) (H : Hp) (E : XK), (PE (cxOf (L2.CX P w) P w K mg base [self, p, q] qual scope (iniA K x) cdv A outer s H E) (.Name self p1) (tVar 0) ∧ PE (cxOf (L2.CX P w) P w K mg base [self, p, q] qual scope (iniA K x) cdv A outer s H E) (.Name p p3) (tVar 1) ∧
      swapsWith (.Name p p3) (some (.Attribute (.Name self p1) f p2)) pos.line (cxOf (L2.CX P w) P w K mg base [self, p, q] qual scope (iniA K x) cdv A outer s H E).env = pure false) ∧
      (PE (cxOf (L2.CX P w) P w K mg base [self, p, q] qual scope (iniA K x) cdv A outer s H E) (.Name self p4) (tVar 0) ∧ PE (cxOf (L2.CX P w) P w K mg base [self, p, q] qual scope (iniA K x) cdv A outer s H E) (.Name q p6) (tVar 2) ∧
      swapsWith (.Name q p6) (some (.Attribute (.Name self p4) g p5)) pos'.line (cxOf (L2.CX P w) P w K mg base [self, p, q] qual scope (iniA K x) cdv A outer s H E).env = pure false)) :
    RaiseA P w K mg base 1 x [f, g] := by
  refine ⟨O, hm, fd, [self, p, q], F.ok S (fun vs H Q E hs => ?_) (fun cdv A outer s H vs Q E hr hs => ?_), F.bindsN (ps := [self, p, q]) hb⟩
  · obtain ⟨a, us, rfl, hl, _⟩ := hs
    simpa using hl
  · obtain ⟨a, us, rfl, hl, ha, hq⟩ := hs
    obtain ⟨⟨h1, h2, h3⟩, h4, h5, h6⟩ := h cdv A outer s H E
    match us, hl with
    | [v, u], _ =>
      refine ⟨_, e ▸ pss_cons (ps_ost h1 h2 h3) (pss_cons (ps_ost h4 h5 h6) pss_nil), ?_⟩
      refine ⟨v, rfl, .ref a, rfl, a, _, rfl, O.oc, O.fld f (List.mem_cons_self ..), .inl ⟨ha, fun dx h7 h8 => ?_⟩⟩
      refine ⟨u, rfl, .ref a, rfl, a, _, rfl, O.oc, O.fld g (List.mem_cons_of_mem _ (List.mem_cons_self ..)), .inr ⟨dx, [(f, v)], upd_same, by rw [upd_ne h8, upd_same], by simp, ?_⟩⟩
      have key : upd (upd (upd H dx (exd dx [(f, v)])) a (exo a (He.ga K x) (some dx))) dx (exd dx [(g, u), (f, v)]) = upd (upd H dx (exd dx [(g, u), (f, v)])) a (exo a (He.ga K x) (some dx)) := by
        funext b
        by_cases hb : b = dx
        · subst hb
          rw [upd_same, upd_ne h8, upd_same]
        · rw [upd_ne hb]
          by_cases ha' : b = a
          · subst ha'; rw [upd_same, upd_same]
          · rw [upd_ne ha', upd_ne hb, upd_ne ha', upd_ne hb]
      show Q .non _
      rw [key]
      exact hq dx h7 h8
end
/-! ### raise X(e, ..) -/
def cRaiseA (x : Str) (fs : List Str) (ca : CA) : CS := fun ρ => match ca ρ with
  | .ok ps ρ1 => (match frzA ps ρ1 with
    | some (ds, ρ2) => .exc ⟨x, putF fs ds []⟩ ρ2
    | none => .bad)
  | .exc y ρ1 => .exc y ρ1
  | .bad => .bad
theorem ss_raiseA {X : Cx} {k : Nat} {x : Str} {fs : List Str} {e : Expr} {es : List Expr} {cr : CA} {p pos pos' : Pos} (R : RaiseA X.prog X.w X.K X.mg X.base k x fs) (hc : X.calm = true) (hr : Room (k + 1) X.A) (hg : Gl X x) (hl : LenA cr fs.length) (h1000 : fs.length ≤ 1000) (ha : SA X (e :: es) cr)
    (hdb : (x == ("__debug__" : Str)) = false := by decide) (he : starEach (e :: es) X.env = (false, eval e X.env) :: starEach es X.env := by rfl) (hpl : (backTo pos (starEach es X.env)).any (·.1) = false := by rfl) :
    SS X (.Raise (some (.Call (.Name x p) (e :: es) [] pos)) none pos') (cRaiseA x fs cr) := fun W tk _ => by
  obtain ⟨fd, pn, F1, hb⟩ := R.ex
  refine PSimp (ps_raise hc tk (pmk_oex R.ox.oc R.ox.ini R.ox.fn F1 hr hb .nil (fun pins σ H s e s' I z => ?_) hg R.glo (ha W tk) hdb he hpl)) ?_
  · obtain ⟨_, _, _, _, _, _, _, _, _, _, _, _, z⟩ := z
    exact z.elim
  rintro Dn σ H ⟨L, ρ, G, B, rel, h⟩
  refine ⟨L, ρ, G, B, rel, ?_⟩
  unfold cRaiseA at h
  cases q : cr ρ with
  | bad => rw [q] at h; exact h.elim
  | exc y ρ1 => rw [q] at h; exact fun cls d H' G' r e xk => h cls d σ H' G' r e xk
  | ok ps ρ1 =>
    rw [q] at h
    intro vs H1 G1 r1 e1 pa
    simp only at h
    cases q2 : frzA ps ρ1 with
    | none => rw [q2] at h; exact h.elim
    | some w =>
      obtain ⟨ds, ρ2⟩ := w
      rw [q2] at h
      obtain ⟨G2, r2, e2, fz⟩ := PlA.frz r1 pa q2
      have hlen : vs.length = fs.length := by rw [pa.length, hl _ _ _ q]
      refine ⟨by omega, fun a hna => ⟨a, vs, by simp, hlen, upd_same, fun dx hdx hne => ?_⟩⟩
      rw [upd_ne hne] at hdx
      refine ⟨rfl, dx, putF fs vs [], upd_same, by rw [upd_ne hne, upd_same], hdx, ?_⟩
      have key : upd (del (upd (upd (upd H1 a (exo a (He.ga X.K x) none)) dx (exd dx (putF fs vs []))) a (exo a (He.ga X.K x) (some dx))) a) dx (.xd (putF fs vs [])) = upd H1 dx (.xd (putF fs vs [])) := by
        funext b
        by_cases hb : b = dx
        · subst hb; rw [upd_same, upd_same]
        · rw [upd_ne hb, upd_ne hb]
          by_cases hb2 : b = a
          · subst hb2; rw [del_same, hna]
          · rw [del_ne hb2, upd_ne hb2, upd_ne hb, upd_ne hb2]
      rw [key]
      exact h _ (some dx) σ _ G2 (r2.new (Same.upd_new hdx)) (e1.trans e2) ⟨_, R.glo, rfl, .inr ⟨dx, _, rfl, upd_same, r2.base.free hdx, FzN.put fz .nil⟩⟩
/-! ### e.f, e a caught exception -/
def lookS (f : Str) : List (D × D) → Option D
  | (.str g, d) :: r => if f = g then some d else lookS f r
  | _ => none
theorem FzN.look {K : PySem.W.Frag} {G : Hp} {f : Str} {d : D} : ∀ {fs : List (Str × V)} {ds : List (Str × D)}, FzN K G fs ds → lookS f (ds.map fun p => (.str p.1, p.2)) = some d → ∃ v, fs.lookup f = some v ∧ Fz K G v d
  | _, _, .nil, h => by cases h
  | _, _, .cons (f := g) (v := v) a b, h => by
    simp only [List.map_cons, lookS] at h
    by_cases e : f = g
    · rw [if_pos e] at h
      cases h
      exact ⟨v, by rw [lookup_put, if_pos e], a⟩
    · rw [if_neg e] at h
      obtain ⟨u, h1, h2⟩ := FzN.look b h
      exact ⟨u, by rw [lookup_put, if_neg e]; exact h1, h2⟩
end TN
namespace TN
open PySem PySem.Spec PyProof.Rows L2
/-! webs joined by marks; round numberings as the laws look at them; the greatest divisor -/
def mx (a b : Int) : Int := if b > a then b else a
def mn (a b : Int) : Int := if b < a then b else a
def mkStep (ms : List Int) (t : Nat × Nat) : List Int := ms.map fun m => if m = mx (ms.getD t.1 0) (ms.getD t.2 0) then mn (ms.getD t.1 0) (ms.getD t.2 0) else m
def marksL (n : Nat) (ts : List (Nat × Nat)) : List Int := ts.foldl mkStep (rgI 0 n)
def maxL : List Int → Int
  | [] => 0
  | a :: xs => xs.foldl max a
def connB (n : Nat) (ts : List (Nat × Nat)) : Bool := decide (maxL (marksL n ts) = 0)
def treeB (n : Nat) (ts : List (Nat × Nat)) : Bool := decide (ts.length + 1 = n) && connB n ts
section
variable {n : Nat} {ts : List (Nat × Nat)}
/-! a round numbering, as the laws look at it -/
def sumsR (ts : List (Nat × Nat)) (ns : List Int) : List Int := ts.map fun t => (ns.getD t.1 0 + ns.getD t.2 0) % (ts.length : Int)
end
/-! the greatest divisor -/
end TN
namespace TN
open PySem PySem.Spec PyProof.Rows L2
/-! spines with legs, and the cases of round numberings -/
def lg (legs : List Nat) : List D := legs.map fun (k : Nat) => PyData.int (k : Nat)
theorem take_sum (legs : List Nat) {k : Nat} (h : k < legs.length) : (legs.take (k + 1)).sum = (legs.take k).sum + legs.getD k 0 := by
  rw [List.take_succ, List.sum_append]
  simp [h]
theorem take_le (legs : List Nat) (k : Nat) : (legs.take k).sum ≤ legs.sum := by
  have := congrArg List.sum (List.take_append_drop k legs)
  rw [List.sum_append] at this
  omega
theorem rng_at {m k : Nat} {pre post : List Nat} (e : List.range m = pre ++ k :: post) : k = pre.length ∧ k < m := by
  have h1 : (List.range m)[pre.length]? = some k := by rw [e]; simp
  obtain ⟨h3, h2⟩ := List.getElem?_eq_some_iff.mp h1
  have h4 : pre.length = k := by simpa using h2
  exact ⟨h4.symm, by simp at h3; omega⟩
end TN
namespace TN
open PySem PySem.Spec PyProof.Rows L2
end TN
namespace TN
open PySem PySem.Spec PyProof.Rows L2
theorem wok_sort {n : Nat} {F : List (Nat × Nat)} (h1 : 1 ≤ n) (h2 : n ≤ 1000) (h3 : F.length ≤ 1000) (h4 : ∀ t ∈ F, t.1 < n ∧ t.2 < n) : WebOk n (sortT F) :=
  ⟨h1, h2, by rw [(sortT_perm F).length_eq]; exact h3, fun t ht => h4 t ((sortT_perm F).mem_iff.mp ht)⟩
theorem sum_le_mul {B : Nat} : ∀ (L : List Nat), (∀ x ∈ L, x ≤ B) → L.sum ≤ B * L.length
  | [], _ => by simp
  | x :: xs, h => by
    have h1 := h x (List.mem_cons_self ..)
    have h2 := sum_le_mul xs fun y hy => h y (List.mem_cons_of_mem _ hy)
    rw [List.sum_cons, List.length_cons, Nat.mul_succ]
    omega
end TN
namespace TN
open PySem PySem.Spec PyProof.Rows L2
/-! pieces of webs -/
/-! marks, plainly -/
def mf (m : Nat → Nat) (t : Nat × Nat) : Nat → Nat := fun u => if m u = max (m t.1) (m t.2) then min (m t.1) (m t.2) else m u
def mkN (ts : List (Nat × Nat)) : Nat → Nat := ts.foldl mf id
structure MOk (m : Nat → Nat) : Prop where
  le : ∀ u, m u ≤ u
  id : ∀ u, m (m u) = m u
theorem rgI_nat (n : Nat) : rgI 0 (n : Int) = (List.range n).map fun u => ((u : Nat) : Int) := by
  unfold rgI
  have : ((n : Int) - 0).toNat = n := by omega
  rw [this]
  refine List.map_congr_left fun u _ => ?_
  omega
/-! pieces, plainly -/
def cls (n : Nat) (ts : List (Nat × Nat)) (r : Nat) : List Nat := (List.range n).filter fun v => decide (mkN ts v = r)
/-! one piece -/
def nbrs (ts : List (Nat × Nat)) (v : Nat) : List Nat := ts.filterMap fun t => if hasP t v = true then some (t.1 + t.2 - v) else none
structure Bf (n : Nat) (ts : List (Nat × Nat)) (p : Nat) (F : List Nat) (met : Nat) : Prop where
  nd : F.Nodup
  pin : p ∈ F
  cl : ∀ x ∈ F, x < n ∧ mkN ts x = mkN ts p
  le : met ≤ F.length
  done : ∀ i, i < met → ∀ o ∈ nbrs ts (F.getD i 0), o ∈ F
end TN
namespace TN
open PySem PySem.Spec PyProof.Rows L2
section
variable {n : Nat} {ts : List (Nat × Nat)}
/-! all pieces -/
end
end TN
namespace TN
open PySem PySem.Spec PyProof.Rows L2
/-! two sides of webs -/
def dbl (n : Nat) (ts : List (Nat × Nat)) : List (Nat × Nat) := ts.flatMap fun t => [(t.1, t.2 + n), (t.1 + n, t.2)]
def m2 (n : Nat) (ts : List (Nat × Nat)) : Nat → Nat := mkN (dbl n ts)
section
variable {n : Nat} {ts : List (Nat × Nat)}
structure Sd (n : Nat) (ts : List (Nat × Nat)) (S : Nat → Nat) : Prop where
  le : ∀ v, v < n → S v ≤ 1
  s0 : ∀ v, v < n → S v = 0 → m2 n ts v = m2 n ts (mkN ts v)
  s1 : ∀ v, v < n → S v = 1 → m2 n ts v = m2 n ts (mkN ts v + n)
  rt : ∀ v, v < n → mkN ts v = v → S v = 0
/-! the dict of sides -/
def ks (l : List (Nat × Nat)) : List Nat := l.map (·.1)
/-! the walk through the pieces -/
structure Df (n : Nat) (ts : List (Nat × Nat)) (P : List Nat) (l : List (Nat × Nat)) (f : List Nat) (hot : List Nat) : Prop where
  nd : (ks l).Nodup
  lt : ∀ k ∈ ks l, k < n
  ok : ∀ p ∈ l, p.2 ≤ 1 ∧ (p.2 = 0 → m2 n ts p.1 = m2 n ts (mkN ts p.1)) ∧ (p.2 = 1 → m2 n ts p.1 = m2 n ts (mkN ts p.1 + n)) ∧ (mkN ts p.1 = p.1 → p.2 = 0)
  rt : ∀ k ∈ ks l, mkN ts k ∈ P
  sub : ∀ r ∈ P, r ∈ ks l
  fr : ∀ x ∈ f, x ∈ ks l
  cl : ∀ k ∈ ks l, k ∉ f → k ∉ hot → ∀ o ∈ nbrs ts k, o ∈ ks l
end
end TN
namespace TN
open PySem PySem.Spec PyProof.Rows L2
section
variable {n : Nat} {ts : List (Nat × Nat)}
end
end TN
namespace TN
open PySem PySem.Spec PyProof.Rows L2
/-! a, b = a list -/
end TN
namespace TN
open PySem PySem.Spec PyProof.Rows L2
/-! products: wide whole numbers, tuples so often -/
end TN
namespace TN
open PySem PySem.Spec PyProof.Rows L2
/-! is, is not: of a truth anything -/
def OthV (x : V) : Prop := x = .non ∨ (∃ i, x = .int i) ∨ (∃ t, x = .str t) ∨ ∃ a, x = .ref a
def rIsO (r : Bool) : R2 := fun x y H Q => ∃ b, y = .bl b ∧ OthV x ∧ Q (.bl r) H
theorem op_isNotO {X : Cx} : OpR X (compareOp .IsNot) (rIsO true) := by
  intro pins s σ H x y v u Q I rx ry h
  obtain ⟨b, rfl, ho, q⟩ := h
  cases (show u = Value.bool b from ry)
  rcases ho with rfl | ⟨i, rfl⟩ | ⟨t, rfl⟩ | ⟨a, rfl⟩
  · cases rx
    exact wpAny_isNot_other rfl (fun z => by cases z) ⟨.bl true, H, I, rfl, q⟩
  · obtain ⟨t, rfl⟩ := rx
    exact wpAny_isNot_other rfl (fun z => by cases z) ⟨.bl true, H, I, rfl, q⟩
  · obtain ⟨t, rfl⟩ := rx
    exact wpAny_isNot_other rfl (fun z => by cases z) ⟨.bl true, H, I, rfl, q⟩
  · cases rx
    exact wpAny_isNot_other rfl (fun z => by cases z) ⟨.bl true, H, I, rfl, q⟩
theorem Vw.oth {K : PySem.W.Frag} {G H : Hp} {v : V} {d : D} (s : Same G H) (h : Vw K G H v d) (hd : ∀ b, d ≠ .bool b) : OthV v := by
  rcases h with h | ⟨a, rfl, h⟩
  · cases h <;> first | exact .inl rfl | exact .inr (.inl ⟨_, rfl⟩) | exact .inr (.inr (.inl ⟨_, rfl⟩)) | exact .inr (.inr (.inr ⟨_, rfl⟩)) | exact absurd rfl (hd _)
  · exact .inr (.inr (.inr ⟨_, rfl⟩))
def opIsNotTr (x y : D) : Option Pl := match y with
  | .bool b => match x with
    | .bool a => some (.val (.bool (!decide (a = b))))
    | _ => some (.val (.bool true))
  | _ => none
abbrev rIsNotTr : R2 := fun x y H Q => rNotB x y H Q ∨ rIsO true x y H Q
theorem op_isNotTr {X : Cx} : OpR X (compareOp .IsNot) rIsNotTr := op_notBl.or op_isNotO
theorem isNotTr_ok (K : PySem.W.Frag) : OpOk K rIsNotTr opIsNotTr := by
  intro G H x y dx dy p Q s hx hy e q
  unfold opIsNotTr at e
  split at e
  · split at e
    · cases e
      exact .inl ⟨_, _, hx.bool, hy.bool, q _ _ (.fz (.bl _))⟩
    · rename_i hd
      cases e
      exact .inr ⟨_, hy.bool, hx.oth s (fun b z => hd b z), q _ _ (.fz (.bl _))⟩
  · cases e
end TN
namespace TN
open PySem PySem.Spec PyProof.Rows L2
/-! spines numbered from both ends -/
section
variable (legs : List Nat)
def cntS : Int := (legs.length : Int) + (legs.sum : Nat) - 1
def offS : Nat → Nat
  | 0 => legs.length
  | k + 1 => offS k + legs.getD k 0
def exS (k : Nat) : Nat := legs.getD k 0 + if k + 1 < legs.length then 1 else 0
def loS : Nat → Int
  | 0 => 1
  | k + 1 => if k % 2 = 1 then loS k + (exS legs k : Nat) else loS k
def hiS : Nat → Int
  | 0 => cntS legs
  | k + 1 => if k % 2 = 1 then hiS k else hiS k - (exS legs k : Nat)
def spV (u : Nat) : Int := if u % 2 = 1 then hiS legs u + 1 else loS legs u - 1
def lfV (k : Nat) (i : Nat) : Int := if k % 2 = 1 then loS legs k + (i : Nat) else hiS legs k - (i : Nat)
def tieK (k : Nat) : List (Nat × Nat) := (if k = 0 then [] else [(k - 1, k)]) ++ (List.range (legs.getD k 0)).map fun i => (k, offS legs k + i)
def tieS (K : Nat) : List (Nat × Nat) := (List.range K).flatMap (tieK legs)
def lfK (k : Nat) : List Int := (List.range (legs.getD k 0)).map (lfV legs k)
def lfS (K : Nat) : List Int := (List.range K).flatMap (lfK legs)
def spS (K : Nat) : List Int := (List.range K).map (spV legs)
def numS : List Int := spS legs legs.length ++ lfS legs legs.length
theorem tieS_succ (K : Nat) : tieS legs (K + 1) = tieS legs K ++ tieK legs K := by
  unfold tieS
  rw [List.range_succ, List.flatMap_append]; simp
theorem lfS_succ (K : Nat) : lfS legs (K + 1) = lfS legs K ++ lfK legs K := by
  unfold lfS
  rw [List.range_succ, List.flatMap_append]; simp
theorem spS_succ (K : Nat) : spS legs (K + 1) = spS legs K ++ [spV legs K] := by
  unfold spS
  rw [List.range_succ, List.map_append]; rfl
theorem spS_len (K : Nat) : (spS legs K).length = K := by simp [spS]
theorem off_sum : ∀ k, k ≤ legs.length → offS legs k = legs.length + (legs.take k).sum
  | 0, _ => by simp [offS]
  | k + 1, h => by
    rw [offS, off_sum k (by omega), take_sum legs (by omega)]; omega
theorem off_end : offS legs legs.length = legs.length + legs.sum := by
  rw [off_sum legs _ (Nat.le_refl _), List.take_length]
theorem off_ge (k : Nat) : legs.length ≤ offS legs k := by
  induction k with
  | zero => exact Nat.le_refl _
  | succ k ih => rw [offS]; omega
theorem off_mono {j k : Nat} (h : j ≤ k) : offS legs j ≤ offS legs k := by
  induction k with
  | zero => rw [show j = 0 by omega]; exact Nat.le_refl _
  | succ k ih =>
    by_cases q : j = k + 1
    · rw [q]; exact Nat.le_refl _
    · have := ih (by omega)
      rw [offS]; omega
theorem lf_len (K : Nat) : (lfS legs K).length + legs.length = offS legs K := by
  induction K with
  | zero => simp [lfS, offS]
  | succ K ih => rw [lfS_succ, List.length_append, offS, ← ih]; simp [lfK]; omega
theorem tie_len (K : Nat) : (tieS legs K).length + legs.length = offS legs K + (K - 1) := by
  induction K with
  | zero => simp [tieS, offS]
  | succ K ih =>
    rw [tieS_succ, List.length_append, offS]
    unfold tieK
    by_cases h : K = 0
    · subst h; simp [tieS, offS] at ih ⊢; omega
    · rw [if_neg h]; simp; omega
theorem d_eq : ∀ k, k ≤ legs.length → 1 ≤ legs.length → hiS legs k - loS legs k + 1 = cntS legs - ((offS legs k : Int) - legs.length) - (min k (legs.length - 1) : Nat)
  | 0, _, _ => by simp [hiS, loS, offS]
  | k + 1, h, h1 => by
    have ih := d_eq k (by omega) h1
    have e : hiS legs (k + 1) - loS legs (k + 1) = hiS legs k - loS legs k - (exS legs k : Nat) := by
      rw [hiS, loS]; split <;> omega
    rw [e, offS]
    unfold exS
    split <;> omega
theorem d_end (h1 : 1 ≤ legs.length) : hiS legs legs.length = loS legs legs.length - 1 := by
  have h2 := d_eq legs legs.length (Nat.le_refl _) h1
  rw [off_end] at h2
  unfold cntS at h2
  omega
theorem lo_mono {j k : Nat} (h : j ≤ k) : loS legs j ≤ loS legs k := by
  induction k with
  | zero => rw [show j = 0 by omega]; exact Int.le_refl _
  | succ k ih =>
    by_cases q : j = k + 1
    · rw [q]; exact Int.le_refl _
    · have := ih (by omega)
      rw [loS]; split <;> omega
theorem hi_mono {j k : Nat} (h : j ≤ k) : hiS legs k ≤ hiS legs j := by
  induction k with
  | zero => rw [show j = 0 by omega]; exact Int.le_refl _
  | succ k ih =>
    by_cases q : j = k + 1
    · rw [q]; exact Int.le_refl _
    · have := ih (by omega)
      rw [hiS]; split <;> omega
theorem sp_at {u K : Nat} (h : u < K) : (spS legs K)[u]? = some (spV legs u) := by
  unfold spS
  rw [List.getElem?_map, List.getElem?_range h]; rfl
theorem lf_at {k i : Nat} (hi : i < legs.getD k 0) : ∀ K, k < K → (lfS legs K)[offS legs k - legs.length + i]? = some (lfV legs k i)
  | 0, h => by omega
  | K + 1, h => by
    have hl := lf_len legs K
    have hg := off_ge legs k
    rw [lfS_succ]
    by_cases q : k < K
    · have hm := off_mono legs (show k + 1 ≤ K by omega)
      rw [offS] at hm
      rw [List.getElem?_append_left (by omega), lf_at hi K q]
    · have hk : k = K := by omega
      subst hk
      rw [List.getElem?_append_right (by omega), show offS legs k - legs.length + i - (lfS legs k).length = i by omega]
      unfold lfK
      rw [List.getElem?_map, List.getElem?_range hi]; rfl
theorem num_sp {u : Nat} (h : u < legs.length) : (numS legs).getD u 0 = spV legs u := by
  unfold numS
  rw [List.getD_eq_getElem?_getD, List.getElem?_append_left (by rw [spS_len]; exact h), sp_at legs h]; rfl
theorem num_lf {k i : Nat} (hk : k < legs.length) (hi : i < legs.getD k 0) : (numS legs).getD (offS legs k + i) 0 = lfV legs k i := by
  have hg := off_ge legs k
  unfold numS
  rw [List.getD_eq_getElem?_getD, List.getElem?_append_right (by rw [spS_len]; omega), spS_len, show offS legs k + i - legs.length = offS legs k - legs.length + i by omega, lf_at legs hi _ hk]; rfl
theorem num_len : (numS legs).length = legs.length + legs.sum := by
  have h1 := lf_len legs legs.length
  rw [off_end] at h1
  unfold numS
  rw [List.length_append, spS_len]; omega
theorem down_app (c : Int) (a b : Nat) : ((List.range a).map fun (j : Nat) => c - (j : Nat)) ++ ((List.range b).map fun (i : Nat) => c - (a : Nat) - (i : Nat)) = (List.range (a + b)).map fun (j : Nat) => c - (j : Nat) := by
  rw [List.range_add, List.map_append, List.map_map]
  congr 1
  refine List.map_congr_left fun i _ => ?_
  simp only [Function.comp]
  omega
/-- the steps go down one by one -/
theorem steps_down (h1 : 1 ≤ legs.length) : ∀ K, K ≤ legs.length → steps (numS legs) (tieS legs K) = (List.range (tieS legs K).length).map fun (j : Nat) => cntS legs - (j : Nat)
  | 0, _ => by simp [tieS, steps]
  | K + 1, h => by
    have ih := steps_down h1 K (by omega)
    have htl := tie_len legs K
    have hog := off_ge legs K
    have hd := d_eq legs K (by omega) h1
    have e1 : steps (numS legs) (tieS legs (K + 1)) = steps (numS legs) (tieS legs K) ++ steps (numS legs) (tieK legs K) := by
      rw [tieS_succ]; unfold steps; rw [List.map_append]
    have hc0 : loS legs K ≤ hiS legs K + 1 := by
      have h2 := lo_mono legs (show K ≤ legs.length by omega)
      have h3 := hi_mono legs (show K ≤ legs.length by omega)
      have h4 := d_end legs h1
      omega
    have hex : loS legs (K + 1) ≤ hiS legs (K + 1) + 1 := by
      have h2 := lo_mono legs (show K + 1 ≤ legs.length by omega)
      have h3 := hi_mono legs (show K + 1 ≤ legs.length by omega)
      have h4 := d_end legs h1
      omega
    have hcl : ((legs.getD K 0 : Nat) : Int) ≤ hiS legs K - loS legs K + 1 := by
      rw [loS, hiS] at hex
      unfold exS at hex
      split at hex <;> omega
    have e2 : steps (numS legs) (tieK legs K) = (List.range (tieK legs K).length).map fun (i : Nat) => cntS legs - ((tieS legs K).length : Nat) - (i : Nat) := by
      have elegs : steps (numS legs) ((List.range (legs.getD K 0)).map fun i => (K, offS legs K + i)) = (List.range (legs.getD K 0)).map fun (i : Nat) => hiS legs K - loS legs K + 1 - (i : Nat) := by
        unfold steps
        rw [List.map_map]
        refine List.map_congr_left fun i hi => ?_
        have hi' := List.mem_range.mp hi
        simp only [Function.comp]
        rw [num_sp legs (by omega), num_lf legs (by omega) hi']
        unfold spV lfV absI
        (repeat' split) <;> omega
      unfold tieK
      by_cases hK : K = 0
      · subst hK
        rw [if_pos rfl, List.nil_append, elegs]
        simp only [List.length_map, List.length_range]
        refine List.map_congr_left fun i _ => ?_
        simp [tieS, hiS, loS]
      · rw [if_neg hK]
        have e3 : steps (numS legs) ([(K - 1, K)] ++ (List.range (legs.getD K 0)).map fun i => (K, offS legs K + i)) = [absI ((numS legs).getD (K - 1) 0 - (numS legs).getD K 0)] ++ steps (numS legs) ((List.range (legs.getD K 0)).map fun i => (K, offS legs K + i)) := by unfold steps; rw [List.map_append]; rfl
        rw [e3, elegs, num_sp legs (by omega), num_sp legs (by omega)]
        have e4 : absI (spV legs (K - 1) - spV legs K) = hiS legs K - loS legs K + 2 := by
          obtain ⟨J, rfl⟩ : ∃ J, K = J + 1 := ⟨K - 1, by omega⟩
          rw [Nat.add_sub_cancel]
          unfold spV absI
          rw [loS, hiS] at hc0 ⊢
          by_cases q : J % 2 = 1
          · have q2 : ¬ ((J + 1) % 2 = 1) := by omega
            rw [if_pos q, if_neg q2, if_pos q, if_pos q] at *
            split <;> omega
          · have q2 : (J + 1) % 2 = 1 := by omega
            rw [if_neg q, if_pos q2, if_neg q, if_neg q] at *
            split <;> omega
        rw [e4]
        have e5 : cntS legs - ((tieS legs K).length : Nat) = hiS legs K - loS legs K + 2 := by omega
        rw [e5]
        simp only [List.singleton_append, List.length_cons, List.length_map, List.length_range]
        rw [List.range_succ_eq_map, List.map_cons, List.map_map]
        congr 1
        · simp
        · refine List.map_congr_left fun i _ => ?_
          simp only [Function.comp]
          omega
    rw [e1, e2, ih, down_app, tieS_succ, List.length_append]
theorem rg_app {a b c : Int} (h1 : a ≤ b) (h2 : b ≤ c) : rgI a b ++ rgI b c = rgI a c := by
  unfold rgI
  have : (c - a).toNat = (b - a).toNat + (c - b).toNat := by omega
  rw [this, List.range_add, List.map_append, List.map_map]
  congr 1
  refine List.map_congr_left fun i _ => ?_
  simp only [Function.comp]
  omega
theorem up_rg (a : Int) (m : Nat) : ((List.range m).map fun (i : Nat) => a + (i : Nat)) = rgI a (a + (m : Nat)) := by
  unfold rgI
  rw [show (a + (m : Nat) - a).toNat = m by omega]
theorem down_rg (a : Int) (m : Nat) : ((List.range m).map fun (i : Nat) => a - (i : Nat)).Perm (rgI (a - (m : Nat) + 1) (a + 1)) := by
  refine perm_of ?_ ?_ (by simp [rgI]; omega)
  · unfold List.Nodup
    rw [List.pairwise_map]
    exact List.Pairwise.imp (fun {x y} hxy h => hxy (by omega)) List.nodup_range
  · intro x hx
    obtain ⟨i, hi, rfl⟩ := List.mem_map.mp hx
    have := List.mem_range.mp hi
    unfold rgI
    rw [List.mem_map]
    exact ⟨m - 1 - i, List.mem_range.mpr (by omega), by omega⟩
theorem num_perm (h1 : 1 ≤ legs.length) : ∀ K, K ≤ legs.length → (spS legs (min (K + 1) legs.length) ++ lfS legs K).Perm (rgI 0 (loS legs K) ++ rgI (hiS legs K + 1) (cntS legs + 1))
  | 0, _ => by
    rw [show min (0 + 1) legs.length = 1 by omega]
    have e1 : spS legs 1 = [0] := by simp [spS, spV, loS]
    have e2 : rgI (hiS legs 0 + 1) (cntS legs + 1) = [] := by simp [rgI, hiS]
    have e3 : rgI 0 (loS legs 0) = [0] := by simp [rgI, loS]
    rw [e1, e2, e3]
    simp [lfS]
  | K + 1, h => by
    have ih := num_perm h1 K (by omega)
    have hlo0 := lo_mono legs (show 0 ≤ K by omega)
    have hl0 : loS legs 0 = 1 := rfl
    have hhi0 := hi_mono legs (show 0 ≤ K by omega)
    have hh0 : hiS legs 0 = cntS legs := rfl
    -- what is new
    have hnew : (spS legs (min (K + 1 + 1) legs.length) ++ lfS legs (K + 1)).Perm ((spS legs (min (K + 1) legs.length) ++ lfS legs K) ++ (lfK legs K ++ if K + 1 < legs.length then [spV legs (K + 1)] else [])) := by
      rw [lfS_succ]
      by_cases q : K + 1 < legs.length
      · rw [if_pos q, show min (K + 1 + 1) legs.length = K + 1 + 1 by omega, show min (K + 1) legs.length = K + 1 by omega, spS_succ]
        generalize spS legs (K + 1) = A
        generalize lfS legs K = B
        generalize lfK legs K = C
        rw [List.append_assoc, List.append_assoc]
        refine List.Perm.append_left A ?_
        rw [← List.append_assoc B C]
        exact List.perm_append_comm
      · rw [if_neg q, show min (K + 1 + 1) legs.length = legs.length by omega, show min (K + 1) legs.length = legs.length by omega, List.append_nil, List.append_assoc]
    refine hnew.trans ((ih.append_right _).trans ?_)
    by_cases q : K % 2 = 1
    · have e1 : lfK legs K ++ (if K + 1 < legs.length then [spV legs (K + 1)] else []) = rgI (loS legs K) (loS legs (K + 1)) := by
        rw [loS, if_pos q, ← up_rg]
        unfold exS lfK
        have ev : lfV legs K = fun (i : Nat) => loS legs K + (i : Nat) := by
          funext i; unfold lfV; rw [if_pos q]
        rw [ev]
        by_cases q2 : K + 1 < legs.length
        · rw [if_pos q2, if_pos q2, List.range_succ, List.map_append]
          congr 1
          unfold spV
          rw [if_neg (by omega), loS, if_pos q]
          unfold exS
          rw [if_pos q2]
          simp
          omega
        · rw [if_neg q2, if_neg q2, List.append_nil]; rfl
      have e2 : hiS legs (K + 1) = hiS legs K := by rw [hiS, if_pos q]
      rw [e1, e2, List.append_assoc]
      refine (List.Perm.append_left _ List.perm_append_comm).trans ?_
      rw [← List.append_assoc, rg_app (by omega) (lo_mono legs (by omega))]
    · have e1 : (lfK legs K ++ (if K + 1 < legs.length then [spV legs (K + 1)] else [])).Perm (rgI (hiS legs (K + 1) + 1) (hiS legs K + 1)) := by
        have e0 : lfK legs K ++ (if K + 1 < legs.length then [spV legs (K + 1)] else []) = (List.range (exS legs K)).map fun (i : Nat) => hiS legs K - (i : Nat) := by
          unfold exS lfK
          have ev : lfV legs K = fun (i : Nat) => hiS legs K - (i : Nat) := by
            funext i; unfold lfV; rw [if_neg q]
          rw [ev]
          by_cases q2 : K + 1 < legs.length
          · rw [if_pos q2, if_pos q2, List.range_succ, List.map_append]
            congr 1
            unfold spV
            rw [if_pos (by omega), hiS, if_neg q]
            unfold exS
            rw [if_pos q2]
            simp
            omega
          · rw [if_neg q2, if_neg q2, List.append_nil]; rfl
        rw [e0, hiS, if_neg q]
        exact down_rg _ _
      have e2 : loS legs (K + 1) = loS legs K := by rw [loS, if_neg q]
      rw [e2, List.append_assoc]
      refine List.Perm.append_left _ (List.perm_append_comm.trans ((e1.append_right _).trans ?_))
      rw [rg_app (by have := hi_mono legs (show K ≤ K + 1 by omega); omega) (by omega)]
theorem num_all (h1 : 1 ≤ legs.length) : (numS legs).Perm (rgI 0 (cntS legs + 1)) := by
  have h := num_perm legs h1 legs.length (Nat.le_refl _)
  rw [show min (legs.length + 1) legs.length = legs.length by omega] at h
  have h2 := d_end legs h1
  rw [h2, show loS legs legs.length - 1 + 1 = loS legs legs.length by omega] at h
  have h3 := lo_mono legs (show 0 ≤ legs.length by omega)
  have h4 := hi_mono legs (show 0 ≤ legs.length by omega)
  have hl0 : loS legs 0 = 1 := rfl
  have hh0 : hiS legs 0 = cntS legs := rfl
  rw [rg_app (by omega) (by omega)] at h
  exact h
end
end TN
namespace TNO
open TN
open PySem PySem.Spec PyProof.Rows L2
/-! what is wanted of a run, told from its end: each step leads to what is wanted of the next -/
def gE {α : Type} (r : R α) (Q : α → Rho → Prop) (E : Xc → Rho → Prop) : Prop := match r with
  | .ok p ρ' => Q p ρ'
  | .exc x ρ' => E x ρ'
  | .bad => False
def gS (r : RS) (N : Rho → Prop) (T : D → Bool → Rho → Prop) (E : Xc → Rho → Prop) : Prop := match r with
  | .nx ρ' => N ρ'
  | .ret d fr ρ' => T d fr ρ'
  | .exc x ρ' => E x ρ'
  | .bad => False
def gF (r : FR) (T : D → Bool → List Slot → Prop) (E : Xc → List Slot → Prop) : Prop := match r with
  | .ok d fr o => T d fr o
  | .exc x o => E x o
  | .bad => False
def gO {α : Type} (o : Option α) (Q : α → Prop) : Prop := match o with
  | some a => Q a
  | none => False
def gP {α β : Type} (o : Option (α × β)) (Q : α → β → Prop) : Prop := match o with
  | some (a, b) => Q a b
  | none => False
def lk (p : Pl) (ρ : Rho) (Q : D → Prop) : Prop := gO (look p ρ) Q
def lkA (ps : List Pl) (ρ : Rho) (Q : List D → Prop) : Prop := gO (lookA ps ρ) Q
def fz1 (p : Pl) (ρ : Rho) (Q : D → Rho → Prop) : Prop := gP (frz p ρ) Q
def fzA (ps : List Pl) (ρ : Rho) (Q : List D → Rho → Prop) : Prop := gP (frzA ps ρ) Q
def br (b : Bool) (A B : Prop) : Prop := (b = true → A) ∧ (b = false → B)
def isB (d : D) (Q : Bool → Prop) : Prop := match d with
  | .bool b => Q b
  | _ => False
def isI (d : D) (Q : Int → Prop) : Prop := match d with
  | .int b => Q b
  | _ => False
def sto (i : Nat) (p : Pl) (ρ : Rho) (N : Rho → Prop) : Prop := gO (store i p ρ) N
def setW (ρ : Rho) (i : Nat) (s : Slot) (N : Rho → Prop) : Prop := N (ρ.set i s)
def ownW (i : Nat) (ρ : Rho) (Q : D → Md → Prop) : Prop := gP (ownAt i ρ) Q
def prW (p : Int × Int) (F : Int → Int → Prop) : Prop := F p.1 p.2
def lenW (ds : List D) (P : Prop) : Prop := ds.length ≤ 16777216 ∧ P
def rt (p : Pl) (ρ : Rho) (T : D → Bool → Rho → Prop) : Prop := gS (retP p ρ) (fun _ => False) T (fun _ _ => False)
def wpd (vs : List Nat) (ρ : Rho) (N : Rho → Prop) : Prop := wipeOk ρ vs = true ∧ N (wipeR ρ vs)
def elW (g : D → Rho → Option Rho) (t : CB) (e : CE) (vs : List Nat) (ρ : Rho) (x : D) (P : Option D → Rho → Prop) : Prop :=
  gO (g x ρ) fun ρ1 => gE (t ρ1) (fun b ρ2 => br b (gE (e ρ2) (fun p ρ3 => fz1 p ρ3 fun d ρ4 => wpd vs ρ4 (P (some d))) (fun _ _ => False)) (wpd vs ρ2 (P none))) (fun _ _ => False)
def cpW (ds : List D) (g : D → Rho → Option Rho) (t : CB) (e : CE) (vs : List Nat) (ρ : Rho) (Q : Pl → Rho → Prop) : Prop :=
  wipeOk ρ vs = true ∧ gE (compL g t e vs ds [] (wipeR ρ vs)) (fun acc ρ2 => Q (.tmp (.list acc)) (backR ρ ρ2 vs)) (fun _ _ => False)
/-- a slot that may be set -/
def okS (s : Slot) : Prop := match s with
  | some (_, .lent) => False
  | some (_, .lz) => False
  | _ => True
section
variable {α : Type} {ρ ρ1 ρ2 : Rho} {E : Xc → Rho → Prop} {d : D} {ds : List D} {i j : Nat}
theorem gE_mono {r : R α} {Q Q' : α → Rho → Prop} (h : gE r Q E) (k : ∀ p ρ, Q p ρ → Q' p ρ) : gE r Q' E := by
  cases r with
  | ok p ρ => exact k p ρ h
  | exc x ρ => exact h
  | bad => exact h
theorem gE_bind {β : Type} {r : R α} {k : α → Rho → R β} {Q : β → Rho → Prop} (h : gE r (fun p ρ1 => gE (k p ρ1) Q E) E) : gE (r.bind k) Q E := by
  cases r with
  | ok p ρ => exact h
  | exc x ρ => exact h
  | bad => exact h
theorem gO_ex {o : Option α} {Q : α → Prop} (h : gO o Q) : ∃ x, o = some x ∧ Q x := by
  cases o with
  | none => exact h.elim
  | some x => exact ⟨x, rfl, h⟩
theorem gP_ex {β : Type} {o : Option (α × β)} {Q : α → β → Prop} (h : gP o Q) : ∃ x y, o = some (x, y) ∧ Q x y := by
  cases o with
  | none => exact h.elim
  | some x => exact ⟨x.1, x.2, rfl, h⟩
theorem gO_of {o : Option α} {x : α} {Q : α → Prop} (h : o = some x) (k : Q x) : gO o Q := by rw [h]; exact k
theorem gP_of {β : Type} {o : Option (α × β)} {x : α} {y : β} {Q : α → β → Prop} (h : o = some (x, y)) (k : Q x y) : gP o Q := by rw [h]; exact k
theorem isB_ex {Q : Bool → Prop} (h : isB d Q) : ∃ b, d = .bool b ∧ Q b := by
  cases d <;> first | exact h.elim | exact ⟨_, rfl, h⟩
theorem isI_ex {Q : Int → Prop} (h : isI d Q) : ∃ b, d = .int b ∧ Q b := by
  cases d <;> first | exact h.elim | exact ⟨_, rfl, h⟩
theorem isB_b {b : Bool} {Q : Bool → Prop} (h : Q b) : isB (.bool b) Q := h
theorem isI_i {b : Int} {Q : Int → Prop} (h : Q b) : isI (.int b) Q := h
theorem gE_ok {r : R α} {a : α} {Q : α → Rho → Prop} (h : r = .ok a ρ1) (k : Q a ρ1) : gE r Q E := by rw [h]; exact k
theorem gS_mono {r : RS} {N N' : Rho → Prop} {T T' : D → Bool → Rho → Prop} {E' : Xc → Rho → Prop} (h : gS r N T E) (h1 : ∀ ρ, N ρ → N' ρ) (h2 : ∀ d fr ρ, T d fr ρ → T' d fr ρ) (h3 : ∀ x ρ, E x ρ → E' x ρ) : gS r N' T' E' := by
  cases r with
  | nx p => exact h1 _ h
  | ret d fr p => exact h2 _ _ _ h
  | exc x ρ => exact h3 _ _ h
  | bad => exact h
/-! truths -/
section
variable {A B : Prop}
theorem br_true (h : A) : br true A B := ⟨fun _ => h, fun z => by cases z⟩
theorem br_false (h : B) : br false A B := ⟨(fun z => by cases z), fun _ => h⟩
theorem br_not {b : Bool} (h : br b B A) : br (!b) A B := by
  cases b
  · exact ⟨fun _ => h.2 rfl, fun z => by cases z⟩
  · exact ⟨(fun z => by cases z), fun _ => h.1 rfl⟩
theorem br_t {b : Bool} (h : b = true) (k : A) : br b A B := by rw [h]; exact br_true k
theorem br_f {b : Bool} (h : b = false) (k : B) : br b A B := by rw [h]; exact br_false k
theorem br_p {p : Prop} [Decidable p] (h : p) (k : A) : br (decide p) A B := br_t (decide_eq_true h) k
theorem br_n {p : Prop} [Decidable p] (h : ¬ p) (k : B) : br (decide p) A B := br_f (decide_eq_false h) k
theorem br_dec {p : Prop} [Decidable p] (h1 : p → A) (h2 : ¬ p → B) : br (decide p) A B := ⟨fun h => h1 (of_decide_eq_true h), fun h => h2 (of_decide_eq_false h)⟩
theorem br_and {a b : Bool} (h : br a (br b A B) B) : br (a && b) A B := by
  cases a
  · exact br_false (h.2 rfl)
  · exact h.1 rfl
theorem br_or {a b : Bool} (h : br a A (br b A B)) : br (a || b) A B := by
  cases a
  · exact h.2 rfl
  · exact br_true (h.1 rfl)
theorem br_sT {a b : String} (h : (Str.ofString a == Str.ofString b) = true) (k : A) : br (Str.ofString a == Str.ofString b) A B := br_t h k
theorem br_sF {a b : String} (h : (Str.ofString a == Str.ofString b) = false) (k : B) : br (Str.ofString a == Str.ofString b) A B := br_f h k
end
/-! looking -/
theorem lk_val {Q : D → Prop} (h : Q d) : lk (.val d) ρ Q := h
theorem lk_tmp {Q : D → Prop} (h : Q d) : lk (.tmp d) ρ Q := h
theorem lk_slot {m : Md} {Q : D → Prop} (h : ρ[i]? = some (some (d, m))) (k : Q d) : lk (.slot i) ρ Q := by
  unfold lk; rw [look_slot h]; exact k
theorem lkA_nil {Q : List D → Prop} (h : Q []) : lkA [] ρ Q := h
theorem lkA_cons {p : Pl} {ps : List Pl} {Q : List D → Prop} (h : lk p ρ fun d => lkA ps ρ fun ds => Q (d :: ds)) : lkA (p :: ps) ρ Q := by
  obtain ⟨x, hx, h⟩ := gO_ex h
  obtain ⟨y, hy, h⟩ := gO_ex h
  unfold lkA lookA
  rw [hx, hy]; exact h
theorem fz1_val {Q : D → Rho → Prop} (h : Q d ρ) : fz1 (.val d) ρ Q := h
theorem fz1_tmp {Q : D → Rho → Prop} (h : Q d ρ) : fz1 (.tmp d) ρ Q := h
theorem fz1_own {Q : D → Rho → Prop} (h : ρ[i]? = some (some (d, .own))) (e : ρ.set i (some (d, .fz)) = ρ1) (k : Q d ρ1) : fz1 (.slot i) ρ Q := by
  unfold fz1 frz; simp only [h, e]; exact k
theorem fz1_lent {Q : D → Rho → Prop} (h : ρ[i]? = some (some (d, .lent))) (e : ρ.set i (some (d, .lz)) = ρ1) (k : Q d ρ1) : fz1 (.slot i) ρ Q := by
  unfold fz1 frz; simp only [h, e]; exact k
theorem fzA_nil {Q : List D → Rho → Prop} (h : Q [] ρ) : fzA [] ρ Q := h
theorem fzA_cons {p : Pl} {ps : List Pl} {Q : List D → Rho → Prop} (h : fz1 p ρ fun d ρ1 => fzA ps ρ1 fun ds => Q (d :: ds)) : fzA (p :: ps) ρ Q := by
  obtain ⟨x, y, hx, h⟩ := gP_ex h
  obtain ⟨u, v, hu, h⟩ := gP_ex h
  unfold fzA frzA
  simp only [hx, hu]; exact h
theorem lenW_i {P : Prop} (h : ds.length ≤ 16777216) (k : P) : lenW ds P := ⟨h, k⟩
theorem len_nil {n : Nat} : ([] : List D).length ≤ n := Nat.zero_le _
theorem len_cons {n : Nat} (h : ds.length ≤ n) : (d :: ds).length ≤ n + 1 := Nat.succ_le_succ h
theorem st0 {s s' : Slot} : (s :: ρ).set 0 s' = s' :: ρ := rfl
theorem stS {s s' : Slot} (h : ρ.set i s' = ρ1) : (s :: ρ).set (i + 1) s' = s :: ρ1 := by rw [← h]; rfl
theorem setW_i {s : Slot} {N : Rho → Prop} (e : ρ.set i s = ρ1) (k : N ρ1) : setW ρ i s N := by unfold setW; rw [e]; exact k
theorem ownW_own {Q : D → Md → Prop} (h : ρ[i]? = some (some (d, .own))) (k : Q d .own) : ownW i ρ Q := by
  unfold ownW ownAt; simp only [h]; exact k
theorem ownW_lent {Q : D → Md → Prop} (h : ρ[i]? = some (some (d, .lent))) (k : Q d .lent) : ownW i ρ Q := by
  unfold ownW ownAt; simp only [h]; exact k
theorem can_ok {s : Slot} (h : ρ[i]? = some s) (hs : okS s) : canSet ρ i = true := by
  unfold canSet; rw [h]
  match s, hs with
  | none, _ => rfl
  | some (_, .fz), _ => rfl
  | some (_, .own), _ => rfl
  | some (_, .lent), h => exact h.elim
  | some (_, .lz), h => exact h.elim
theorem okS_jk {k : Option D} : okS (jk k) := by cases k <;> trivial
theorem okS_fz : okS (some (d, .fz)) := trivial
theorem okS_own : okS (some (d, .own)) := trivial
theorem okS_md {md : Md} (h : md = .own ∨ md = .fz) : okS (some (d, md)) := by rcases h with rfl | rfl <;> trivial
theorem sto_val {N : Rho → Prop} (h : canSet ρ i = true) (e : ρ.set i (some (d, .fz)) = ρ1) (k : N ρ1) : sto i (.val d) ρ N := by
  unfold sto store; simp only [h, if_true, e]; exact k
theorem sto_tmp {N : Rho → Prop} (h : canSet ρ i = true) (e : ρ.set i (some (d, .own)) = ρ1) (k : N ρ1) : sto i (.tmp d) ρ N := by
  unfold sto store; simp only [h, if_true, e]; exact k
theorem sto_own {N : Rho → Prop} (hj : ρ[j]? = some (some (d, .own))) (e : ρ.set j (some (d, .fz)) = ρ1) (h : canSet ρ1 i = true) (e2 : ρ1.set i (some (d, .fz)) = ρ2) (k : N ρ2) : sto i (.slot j) ρ N := by
  unfold sto store frz; simp only [hj, e, h, if_true, e2]; exact k
theorem sto_lent {N : Rho → Prop} (hj : ρ[j]? = some (some (d, .lent))) (e : ρ.set j (some (d, .lz)) = ρ1) (h : canSet ρ1 i = true) (e2 : ρ1.set i (some (d, .fz)) = ρ2) (k : N ρ2) : sto i (.slot j) ρ N := by
  unfold sto store frz; simp only [hj, e, h, if_true, e2]; exact k
theorem rt_val {T : D → Bool → Rho → Prop} (h : T d false ρ) : rt (.val d) ρ T := h
theorem rt_tmp {T : D → Bool → Rho → Prop} (h : T d true ρ) : rt (.tmp d) ρ T := h
theorem rt_own {T : D → Bool → Rho → Prop} (h : ρ[i]? = some (some (d, .own))) (e : ρ.set i none = ρ1) (k : T d true ρ1) : rt (.slot i) ρ T := by
  unfold rt retP; simp only [h, e]; exact k
theorem rt_lent {T : D → Bool → Rho → Prop} (h : ρ[i]? = some (some (d, .lent))) (e : ρ.set i (some (d, .lz)) = ρ1) (k : T d false ρ1) : rt (.slot i) ρ T := by
  unfold rt retP; simp only [h, e]; exact k
theorem wipe_nil : wipeR ρ [] = ρ := rfl
theorem wipe_cons {v : Nat} {vs : List Nat} (h : wipeR ρ vs = ρ1) (h2 : ρ1.set v none = ρ2) : wipeR ρ (v :: vs) = ρ2 := by unfold wipeR; rw [h, h2]
theorem wpd_i {vs : List Nat} {N : Rho → Prop} (h : wipeOk ρ vs = true) (e : wipeR ρ vs = ρ1) (k : N ρ1) : wpd vs ρ N := ⟨h, by rw [e]; exact k⟩
def okW (s : Slot) : Prop := match s with
  | none => True
  | some (_, .fz) => True
  | _ => False
theorem okW_none : okW none := trivial
theorem okW_fz : okW (some (d, .fz)) := trivial
theorem okW_jk {k : Option D} : okW (jk k) := by cases k <;> trivial
theorem okW_S {s : Slot} (h : okW s) : okS s := by
  match s, h with
  | none, _ => trivial
  | some (_, .fz), _ => trivial
theorem wOk_nil : wipeOk ρ [] = true := rfl
theorem wOk_cons {v : Nat} {vs : List Nat} {s : Slot} (h : ρ[v]? = some s) (hs : okW s) (k : wipeOk ρ vs = true) : wipeOk ρ (v :: vs) = true := by
  unfold wipeOk at *
  rw [List.all_cons, k, Bool.and_true, h]
  match s, hs with
  | none, _ => rfl
  | some (_, .fz), _ => rfl
def setB (ρ0 ρ : Rho) (vs : List Nat) (N : Rho → Prop) : Prop := N (backR ρ0 ρ vs)
theorem back_nil {ρ0 : Rho} : backR ρ0 ρ [] = ρ := rfl
theorem back_cons {ρ0 : Rho} {v : Nat} {vs : List Nat} {s : Slot} (h : ρ0[v]? = some s) (h1 : backR ρ0 ρ vs = ρ1) (h2 : ρ1.set v s = ρ2) : backR ρ0 ρ (v :: vs) = ρ2 := by
  unfold backR; simp only [h, h1]; exact h2
theorem setB_i {ρ0 : Rho} {vs : List Nat} {N : Rho → Prop} (e : backR ρ0 ρ vs = ρ1) (k : N ρ1) : setB ρ0 ρ vs N := by unfold setB; rw [e]; exact k
/-! expressions -/
section
variable {Q : Pl → Rho → Prop} {a b c : CE} {ca : CA}
theorem w_lit (h : Q (.val d) ρ) : gE (cLit d ρ) Q E := h
theorem w_newK (h : Q (.tmp (.dict [])) ρ) : gE (cNewK ρ) Q E := h
theorem w_newT (h : Q (.tmp (.dict [(.none, .none)])) ρ) : gE (cNewT ρ) Q E := h
theorem w_fz (h : ρ[i]? = some (some (d, .fz))) (k : Q (.val d) ρ) : gE (cVar i ρ) Q E := gE_ok (var_fz h) k
theorem w_lz (h : ρ[i]? = some (some (d, .lz))) (k : Q (.val d) ρ) : gE (cVar i ρ) Q E := gE_ok (by unfold cVar; simp only [h]) k
theorem w_own (h : ρ[i]? = some (some (d, .own))) (k : Q (.slot i) ρ) : gE (cVar i ρ) Q E := gE_ok (var_own h) k
theorem w_lent (h : ρ[i]? = some (some (d, .lent))) (k : Q (.slot i) ρ) : gE (cVar i ρ) Q E := gE_ok (var_lent h) k
theorem w_any {md : Md} (h : ρ[i]? = some (some (d, md))) (hm : md = .fz ∨ md = .lent) (k : ∀ p : Pl, (∀ ρ' : Rho, ρ'[i]? = some (some (d, md)) → look p ρ' = some d) → Q p ρ) : gE (cVar i ρ) Q E := by
  rcases hm with rfl | rfl
  · exact gE_ok (var_fz h) (k _ fun _ _ => rfl)
  · exact gE_ok (var_lent h) (k _ fun _ h => look_slot h)
theorem w_any2 {md : Md} (h : ρ[i]? = some (some (d, md))) (hm : md = .own ∨ md = .fz) (k : ∀ p : Pl, (∀ ρ' : Rho, ρ'[i]? = some (some (d, md)) → look p ρ' = some d) → Q p ρ) : gE (cVar i ρ) Q E := by
  rcases hm with rfl | rfl
  · exact gE_ok (var_own h) (k _ fun _ h => look_slot h)
  · exact gE_ok (var_fz h) (k _ fun _ _ => rfl)
theorem lk_any {md : Md} {p : Pl} {Q : D → Prop} (hp : ∀ ρ' : Rho, ρ'[i]? = some (some (d, md)) → look p ρ' = some d) (h : ρ[i]? = some (some (d, md))) (k : Q d) : lk p ρ Q := by
  unfold lk; rw [hp ρ h]; exact k
theorem gE_op {o : Option Pl} (h : gO o fun r => Q r ρ) : gE (R.ofOpt o ρ) Q E := by
  obtain ⟨x, hx, h⟩ := gO_ex h
  rw [hx]; exact h
theorem w_bin {f : D → D → Option Pl} (h : gE (a ρ) (fun p ρ1 => gE (b ρ1) (fun q ρ2 => lk p ρ2 fun x => lk q ρ2 fun y => gO (f x y) fun r => Q r ρ2) E) E) : gE (cBin f a b ρ) Q E := by
  unfold cBin
  refine gE_bind (gE_mono h fun p ρ1 h => gE_bind (gE_mono h fun q ρ2 h => ?_))
  obtain ⟨x, hx, h⟩ := gO_ex h
  obtain ⟨y, hy, h⟩ := gO_ex h
  simp only [hx, hy]; exact gE_op h
theorem w_un {f : D → Option Pl} (h : gE (a ρ) (fun p ρ1 => lk p ρ1 fun x => gO (f x) fun r => Q r ρ1) E) : gE (cUn f a ρ) Q E := by
  unfold cUn
  refine gE_bind (gE_mono h fun p ρ1 h => ?_)
  obtain ⟨x, hx, h⟩ := gO_ex h
  simp only [hx]; exact gE_op h
theorem w_fn {f : List D → Option Pl} (h : gE (ca ρ) (fun ps ρ1 => lkA ps ρ1 fun x => gO (f x) fun r => Q r ρ1) E) : gE (cFn f ca ρ) Q E := by
  unfold cFn
  refine gE_bind (gE_mono h fun p ρ1 h => ?_)
  obtain ⟨x, hx, h⟩ := gO_ex h
  simp only [hx]; exact gE_op h
theorem w_nil {Q : List Pl → Rho → Prop} (h : Q [] ρ) : gE (cNil ρ) Q E := h
theorem w_cons {Q : List Pl → Rho → Prop} (h : gE (a ρ) (fun p ρ1 => gE (ca ρ1) (fun ps ρ2 => Q (p :: ps) ρ2) E) E) : gE (cCons a ca ρ) Q E :=
  gE_bind (gE_mono h fun _ _ h => gE_bind h)
theorem w_tst {Q : Bool → Rho → Prop} (h : gE (c ρ) (fun p ρ1 => lk p ρ1 fun d => isB d fun b => Q b ρ1) E) : gE (cTst c ρ) Q E := by
  unfold cTst
  refine gE_bind (gE_mono h fun p ρ1 h => ?_)
  obtain ⟨x, hx, h⟩ := gO_ex h
  obtain ⟨y, rfl, h⟩ := isB_ex h
  simp only [hx]; exact h
theorem w_true {Q : Bool → Rho → Prop} (h : Q true ρ) : gE (tTrue ρ) Q E := h
theorem br_if {r s : R α} {k : Bool} {Q : α → Rho → Prop} (h : br k (gE r Q E) (gE s Q E)) : gE (if k = true then r else s) Q E := by
  cases k
  · exact h.2 rfl
  · exact h.1 rfl
theorem w_and {Q : Bool → Rho → Prop} {a b : CB} (h : gE (a ρ) (fun c ρ1 => br c (gE (b ρ1) Q E) (Q false ρ1)) E) : gE (cAnd a b ρ) Q E := by
  unfold cAnd
  exact gE_bind (gE_mono h fun p ρ1 h => br_if h)
theorem w_or {Q : Bool → Rho → Prop} {a b : CB} (h : gE (a ρ) (fun c ρ1 => br c (Q true ρ1) (gE (b ρ1) Q E)) E) : gE (cOr a b ρ) Q E := by
  unfold cOr
  exact gE_bind (gE_mono h fun p ρ1 h => br_if h)
theorem w_not {Q : Bool → Rho → Prop} {a : CB} (h : gE (a ρ) (fun c ρ1 => Q (!c) ρ1) E) : gE (cNot a ρ) Q E := by
  unfold cNot
  exact gE_bind h
theorem w_andV (h : gE (a ρ) (fun p ρ1 => lk p ρ1 fun d => isB d fun k => br k (gE (b ρ1) Q E) (Q (.val (.bool false)) ρ1)) E) : gE (cAndV a b ρ) Q E := by
  unfold cAndV
  exact gE_bind (w_tst (gE_mono h fun p ρ1 h => by
    obtain ⟨x, hx, h⟩ := gO_ex h
    obtain ⟨y, rfl, h⟩ := isB_ex h
    exact gO_of hx (isB_b (br_if h))))
theorem w_orV (h : gE (a ρ) (fun p ρ1 => lk p ρ1 fun d => isB d fun k => br k (Q (.val (.bool true)) ρ1) (gE (b ρ1) Q E)) E) : gE (cOrV a b ρ) Q E := by
  unfold cOrV
  exact gE_bind (w_tst (gE_mono h fun p ρ1 h => by
    obtain ⟨x, hx, h⟩ := gO_ex h
    obtain ⟨y, rfl, h⟩ := isB_ex h
    exact gO_of hx (isB_b (br_if h))))
theorem w_notV (h : gE (a ρ) (fun p ρ1 => lk p ρ1 fun d => isB d fun k => Q (.val (.bool (!k))) ρ1) E) : gE (cNotV a ρ) Q E := by
  unfold cNotV
  exact gE_bind (w_tst h)
theorem w_ite {t : CB} (h : gE (t ρ) (fun k ρ1 => br k (gE (a ρ1) Q E) (gE (b ρ1) Q E)) E) : gE (cIte t a b ρ) Q E := by
  unfold cIte
  exact gE_bind (gE_mono h fun p ρ1 h => br_if h)
theorem w_tup (h : gE (ca ρ) (fun ps ρ1 => fzA ps ρ1 fun ds ρ2 => lenW ds (Q (.val (.tuple ds)) ρ2)) E) : gE (cTup ca ρ) Q E := by
  unfold cTup
  refine gE_bind (gE_mono h fun p ρ1 h => ?_)
  obtain ⟨x, y, hx, h⟩ := gP_ex h
  simp only [hx, h.1, if_true]; exact h.2
theorem w_lst (h : gE (ca ρ) (fun ps ρ1 => fzA ps ρ1 fun ds ρ2 => lenW ds (Q (.tmp (.list ds)) ρ2)) E) : gE (cLst ca ρ) Q E := by
  unfold cLst
  refine gE_bind (gE_mono h fun p ρ1 h => ?_)
  obtain ⟨x, y, hx, h⟩ := gP_ex h
  simp only [hx, h.1, if_true]; exact h.2
theorem w_call {M : FM} (h : gE (ca ρ) (fun ps ρ1 => gE (callM M ps ρ1) Q E) E) : gE (cCall M ca ρ) Q E := gE_bind h
theorem w_chain {f g : D → D → Option Pl} (h : gE (a ρ) (fun p ρ1 => gE (b ρ1) (fun q ρ2 => lk p ρ2 fun x => lk q ρ2 fun y => gO (f x y) fun r => lk r ρ2 fun d => isB d fun k => br k (gE (c ρ2) (fun r ρ3 => lk q ρ3 fun y => lk r ρ3 fun z => gO (g y z) fun s => Q s ρ3) E) (Q (.val (.bool false)) ρ2)) E) E)
    (hf : ∀ x y, (f x y).all fun p => match p with | .val _ => true | _ => false) : gE (cChain f g a b c ρ) Q E := by
  unfold cChain
  refine gE_bind (gE_mono h fun p ρ1 h => gE_bind (gE_mono h fun q ρ2 h => ?_))
  obtain ⟨x, hx, h⟩ := gO_ex h
  obtain ⟨y, hy, h⟩ := gO_ex h
  obtain ⟨r, hr, h⟩ := gO_ex h
  obtain ⟨u, hu, h⟩ := gO_ex h
  obtain ⟨k, rfl, h⟩ := isB_ex h
  have hv := hf x y
  rw [hr] at hv
  match r, hu, hv, hr with
  | .val u, hu, _, hr =>
    cases hu
    simp only [hx, hy, hr]
    cases k with
    | false => exact h.2 rfl
    | true =>
      refine gE_bind (gE_mono (h.1 rfl) fun s ρ3 h => ?_)
      obtain ⟨x', hx', h⟩ := gO_ex h
      obtain ⟨y', hy', h⟩ := gO_ex h
      simp only [hx', hy']; exact gE_op h
  | .tmp u, _, hv, _ => cases hv
  | .slot u, _, hv, _ => cases hv
theorem ltG_val (f : Int → Int → Bool) : ∀ x y, (opLtG f x y).all fun p => match p with | .val _ => true | _ => false := by
  intro x y; cases x <;> cases y <;> rfl
theorem eq_val : ∀ x y, (opEq x y).all fun p => match p with | .val _ => true | _ => false := by
  intro x y; unfold opEq; split <;> rfl
theorem w_chI {f : Int → Int → Bool} {g : D → D → Option Pl} (h : gE (a ρ) (fun p ρ1 => gE (b ρ1) (fun q ρ2 => lk p ρ2 fun x => lk q ρ2 fun y => gO (opLtG f x y) fun r => lk r ρ2 fun d => isB d fun k => br k (gE (c ρ2) (fun r ρ3 => lk q ρ3 fun y => lk r ρ3 fun z => gO (g y z) fun s => Q s ρ3) E) (Q (.val (.bool false)) ρ2)) E) E) : gE (cChain (opLtG f) g a b c ρ) Q E := w_chain h (ltG_val f)
theorem w_chE {g : D → D → Option Pl} (h : gE (a ρ) (fun p ρ1 => gE (b ρ1) (fun q ρ2 => lk p ρ2 fun x => lk q ρ2 fun y => gO (opEq x y) fun r => lk r ρ2 fun d => isB d fun k => br k (gE (c ρ2) (fun r ρ3 => lk q ρ3 fun y => lk r ρ3 fun z => gO (g y z) fun s => Q s ρ3) E) (Q (.val (.bool false)) ρ2)) E) E) : gE (cChain opEq g a b c ρ) Q E := w_chain h eq_val
theorem w_ch3 {e f : Int → Int → Bool} {g : D → D → Option Pl} {d : CE} (h : gE (a ρ) (fun p ρ1 => gE (b ρ1) (fun q ρ2 => lk p ρ2 fun x => lk q ρ2 fun y => gO (opLtG e x y) fun r => lk r ρ2 fun k0 => isB k0 fun k => br k
    (gE (c ρ2) (fun r ρ3 => lk q ρ3 fun y => lk r ρ3 fun z => gO (opLtG f y z) fun s => lk s ρ3 fun k1 => isB k1 fun k' => br k' (gE (d ρ3) (fun s ρ4 => lk r ρ4 fun z => lk s ρ4 fun w => gO (g z w) fun u => Q u ρ4) E) (Q (.val (.bool false)) ρ3)) E) (Q (.val (.bool false)) ρ2)) E) E) : gE (cChain3 (opLtG e) (opLtG f) g a b c d ρ) Q E := by
  unfold cChain3
  refine gE_bind (gE_mono h fun p ρ1 h => gE_bind (gE_mono h fun q ρ2 h => ?_))
  obtain ⟨x, hx, h⟩ := gO_ex h
  obtain ⟨y, hy, h⟩ := gO_ex h
  obtain ⟨r, hr, h⟩ := gO_ex h
  obtain ⟨u, hu, h⟩ := gO_ex h
  obtain ⟨k, rfl, h⟩ := isB_ex h
  have hv := ltG_val e x y
  rw [hr] at hv
  match r, hu, hv, hr with
  | .val u, hu, _, hr =>
    cases hu
    simp only [hx, hy, hr]
    cases k with
    | false => exact h.2 rfl
    | true =>
      unfold cLink
      refine gE_bind (gE_mono (h.1 rfl) fun s ρ3 h => ?_)
      obtain ⟨y', hy', h⟩ := gO_ex h
      obtain ⟨z', hz', h⟩ := gO_ex h
      obtain ⟨s', hs', h⟩ := gO_ex h
      obtain ⟨u', hu', h⟩ := gO_ex h
      obtain ⟨k', rfl, h⟩ := isB_ex h
      have hv' := ltG_val f y' z'
      rw [hs'] at hv'
      match s', hu', hv', hs' with
      | .val u', hu', _, hs' =>
        cases hu'
        simp only [hy', hz', hs']
        cases k' with
        | false => exact h.2 rfl
        | true =>
          refine gE_bind (gE_mono (h.1 rfl) fun s ρ4 h => ?_)
          obtain ⟨z2, hz2, h⟩ := gO_ex h
          obtain ⟨w2, hw2, h⟩ := gO_ex h
          simp only [hz2, hw2]; exact gE_op h
      | .tmp u', _, hv', _ => cases hv'
      | .slot u', _, hv', _ => cases hv'
  | .tmp u, _, hv, _ => cases hv
  | .slot u, _, hv, _ => cases hv
theorem w_sl {lo hi : CO} (h : gE (a ρ) (fun p ρ1 => gE (lo ρ1) (fun l ρ2 => gE (hi ρ2) (fun u ρ3 => lk p ρ3 fun x => gO (opSl x l u) fun r => Q r ρ3) E) E) E) : gE (cSl a lo hi ρ) Q E := by
  unfold cSl
  refine gE_bind (gE_mono h fun p ρ1 h => gE_bind (gE_mono h fun l ρ2 h => gE_bind (gE_mono h fun u ρ3 h => ?_)))
  obtain ⟨x, hx, h⟩ := gO_ex h
  simp only [hx]; exact gE_op h
theorem w_noPart {Q : Option Int → Rho → Prop} (h : Q none ρ) : gE (cNoPart ρ) Q E := h
theorem w_part {Q : Option Int → Rho → Prop} (h : gE (c ρ) (fun p ρ1 => lk p ρ1 fun d => isI d fun n => Q (some n) ρ1) E) : gE (cPart c ρ) Q E := by
  unfold cPart
  refine gE_bind (gE_mono h fun p ρ1 h => ?_)
  obtain ⟨x, hx, h⟩ := gO_ex h
  obtain ⟨n, rfl, h⟩ := isI_ex h
  simp only [hx]; exact h
theorem w_mt {T : String} {f : D → List D → Option Pl} (h : gE (a ρ) (fun p ρ1 => lk p ρ1 fun d0 => tyOk T d0 = true ∧ gE (ca ρ1) (fun ps ρ2 => lk p ρ2 fun d => lkA ps ρ2 fun ds => gO (f d ds) fun r => Q r ρ2) E) E) : gE (cMt T f a ca ρ) Q E := by
  unfold cMt
  refine gE_bind (gE_mono h fun p ρ1 h => ?_)
  obtain ⟨x, hx, h1, h⟩ := gO_ex h
  simp only [hx, h1, if_true]
  refine gE_bind (gE_mono h fun ps ρ2 h => ?_)
  obtain ⟨y, hy, h⟩ := gO_ex h
  obtain ⟨z, hz, h⟩ := gO_ex h
  simp only [hy, hz]; exact gE_op h
theorem w_mutL {xs : List D} {m0 : Md} {f : D → List D → Option (D × D)} (h0 : ownAt i ρ = some (.list xs, m0)) (h : gE (ca ρ) (fun ps ρ1 => fzA ps ρ1 fun ds ρ2 => ownW i ρ2 fun d m => gP (f d ds) fun d' y => setW ρ2 i (some (d', m)) fun ρ3 => Q (.val y) ρ3) E) : gE (cMutL i f ca ρ) Q E := by
  unfold cMutL; simp only [h0]
  unfold cMut
  refine gE_bind (gE_mono h fun p ρ1 h => ?_)
  obtain ⟨x, y, hx, h⟩ := gP_ex h
  obtain ⟨d, m, hd, h⟩ := gP_ex h
  obtain ⟨u, v, hu, h⟩ := gP_ex h
  simp only [hx, hd, hu]; exact h
theorem prW_i {n m : Int} {F : Int → Int → Prop} (h : F n m) : prW (n, m) F := h
theorem w_lstRg {r : Rho → R (Int × Int)} (h : gE (r ρ) (fun ab ρ1 => prW ab fun n m => rgOk n m = true ∧ Q (.tmp (.list ((rgI n m).map .int))) ρ1) E) : gE (cLstRg r ρ) Q E := by
  unfold cLstRg
  cases hr : r ρ with
  | ok ab ρ1 => rw [hr] at h; simp only [h.1, if_true]; exact h.2
  | exc x ρ1 => rw [hr] at h; exact h
  | bad => rw [hr] at h; exact h
theorem w_tupRg {r : Rho → R (Int × Int)} (h : gE (r ρ) (fun ab ρ1 => prW ab fun n m => rgOk n m = true ∧ Q (.val (.tuple ((rgI n m).map .int))) ρ1) E) : gE (cTupRg r ρ) Q E := by
  unfold cTupRg
  cases hr : r ρ with
  | ok ab ρ1 => rw [hr] at h; simp only [h.1, if_true]; exact h.2
  | exc x ρ1 => rw [hr] at h; exact h
  | bad => rw [hr] at h; exact h
theorem w_rg1 {Q : Int × Int → Rho → Prop} (h : gE (a ρ) (fun p ρ1 => lk p ρ1 fun d => isI d fun n => Q (0, n) ρ1) E) : gE (cRg1 a ρ) Q E := by
  unfold cRg1
  refine gE_bind (gE_mono h fun p ρ1 h => ?_)
  obtain ⟨x, hx, h⟩ := gO_ex h
  obtain ⟨n, rfl, h⟩ := isI_ex h
  simp only [hx]; exact h
theorem w_rg2 {Q : Int × Int → Rho → Prop} (h : gE (a ρ) (fun p ρ1 => gE (b ρ1) (fun q ρ2 => lk p ρ2 fun d => isI d fun n => lk q ρ2 fun e => isI e fun m => Q (n, m) ρ2) E) E) : gE (cRg2 a b ρ) Q E := by
  unfold cRg2
  refine gE_bind (gE_mono h fun p ρ1 h => gE_bind (gE_mono h fun q ρ2 h => ?_))
  obtain ⟨x, hx, h⟩ := gO_ex h
  obtain ⟨n, rfl, h⟩ := isI_ex h
  obtain ⟨y, hy, h⟩ := gO_ex h
  obtain ⟨m, rfl, h⟩ := isI_ex h
  simp only [hx, hy]; exact h
theorem rg_i {n m : Int} {Q : Prop} (h : 0 ≤ n ∧ n ≤ 1000000 ∧ 0 ≤ m ∧ m ≤ 1000000) (k : Q) : rgOk n m = true ∧ Q := by
  refine ⟨?_, k⟩
  unfold rgOk
  simp
  omega
theorem w_comp {ci : CI} {g : D → Rho → Option Rho} {t : CB} {e : CE} {vs : List Nat} (h : gE (ci ρ) (fun ds ρ1 => cpW ds g t e vs ρ1 Q) E) : gE (cComp ci g t e vs ρ) Q E := by
  unfold cComp
  cases hr : ci ρ with
  | ok ds ρ1 =>
    rw [hr] at h
    obtain ⟨h1, h2⟩ := h
    simp only [h1, if_true]
    cases hc : compL g t e vs ds [] (wipeR ρ1 vs) with
    | ok acc ρ2 => rw [hc] at h2; exact h2
    | exc x ρ2 => rw [hc] at h2; exact h2.elim
    | bad => rw [hc] at h2; exact h2.elim
  | exc x ρ1 => rw [hr] at h; exact h
  | bad => rw [hr] at h; exact h
end
/-! what is walked -/
section
variable {Q : List D → Rho → Prop} {a b c : CE}
theorem w_it (h : gE (c ρ) (fun p ρ1 => fz1 p ρ1 fun d ρ2 => gO (seqD d) fun ds => Q ds ρ2) E) : gE (cIt c ρ) Q E := by
  unfold cIt cFz
  refine gE_bind (gE_mono h fun p ρ1 h => ?_)
  obtain ⟨x, y, hx, h⟩ := gP_ex h
  obtain ⟨z, hz, h⟩ := gO_ex h
  simp only [hx, hz]; exact h
theorem w_enum (h : gE (c ρ) (fun p ρ1 => fz1 p ρ1 fun d ρ2 => gO (seqOf d) fun ds => Q (enumD ds) ρ2) E) : gE (cEnum c ρ) Q E := by
  unfold cEnum cFz
  refine gE_bind (gE_mono h fun p ρ1 h => ?_)
  obtain ⟨x, y, hx, h⟩ := gP_ex h
  obtain ⟨z, hz, h⟩ := gO_ex h
  simp only [hx, hz, Option.map_some]; exact h
theorem w_rev (h : gE (c ρ) (fun p ρ1 => fz1 p ρ1 fun d ρ2 => gO (seqOf d) fun ds => Q ds.reverse ρ2) E) : gE (cRev c ρ) Q E := by
  unfold cRev cFz
  refine gE_bind (gE_mono h fun p ρ1 h => ?_)
  obtain ⟨x, y, hx, h⟩ := gP_ex h
  obtain ⟨z, hz, h⟩ := gO_ex h
  simp only [hx, hz, Option.map_some]; exact h
theorem w_zip (h : gE (a ρ) (fun p ρ1 => gE (b ρ1) (fun q ρ2 => fz1 p ρ2 fun d ρ3 => fz1 q ρ3 fun e ρ4 => gO (match d, e with | .list a, .list b => some (zipD a b) | .tuple a, .tuple b => some (zipD a b) | _, _ => none) fun ds => Q ds ρ4) E) E) : gE (cZip a b ρ) Q E := by
  unfold cZip
  refine gE_bind (gE_mono h fun p ρ1 h => gE_bind (gE_mono h fun q ρ2 h => ?_))
  obtain ⟨x, y, hx, h⟩ := gP_ex h
  obtain ⟨u, v, hu, h⟩ := gP_ex h
  obtain ⟨z, hz, h⟩ := gO_ex h
  have hf : frzA [p, q] ρ2 = some ([x, u], v) := by simp only [frzA, hx, hu]
  simp only [hf]
  cases x <;> cases u <;> first | (cases hz; exact h) | cases hz
theorem w_r1 (h : gE (a ρ) (fun p ρ1 => lk p ρ1 fun d => isI d fun n => rgFit n = true ∧ Q (rgD 0 n) ρ1) E) : gE (cRng1 a ρ) Q E := by
  unfold cRng1
  refine gE_bind (gE_mono h fun p ρ1 h => ?_)
  obtain ⟨x, hx, h⟩ := gO_ex h
  obtain ⟨n, rfl, h1, h⟩ := isI_ex h
  simp only [hx, h1, if_true]; exact h
theorem w_r2 (h : gE (a ρ) (fun p ρ1 => gE (b ρ1) (fun q ρ2 => lk p ρ2 fun d => isI d fun n => lk q ρ2 fun e => isI e fun m => rgFit n = true ∧ rgFit m = true ∧ Q (rgD n m) ρ2) E) E) : gE (cRng2 a b ρ) Q E := by
  unfold cRng2
  refine gE_bind (gE_mono h fun p ρ1 h => gE_bind (gE_mono h fun q ρ2 h => ?_))
  obtain ⟨x, hx, h⟩ := gO_ex h
  obtain ⟨n, rfl, h⟩ := isI_ex h
  obtain ⟨y, hy, h⟩ := gO_ex h
  obtain ⟨m, rfl, h1, h2, h⟩ := isI_ex h
  simp only [hx, hy, h1, h2, and_self, if_true]; exact h
theorem w_r3 (h : gE (a ρ) (fun p ρ1 => gE (b ρ1) (fun q ρ2 => gE (c ρ2) (fun r ρ3 => lk p ρ3 fun d => isI d fun n => lk q ρ3 fun e => isI e fun m => lk r ρ3 fun f => isI f fun k => k = -1 ∧ rgFit n = true ∧ rgFit m = true ∧ Q (rgDown n m) ρ3) E) E) E) : gE (cRng3 a b c ρ) Q E := by
  unfold cRng3
  refine gE_bind (gE_mono h fun p ρ1 h => gE_bind (gE_mono h fun q ρ2 h => gE_bind (gE_mono h fun q ρ3 h => ?_)))
  obtain ⟨x, hx, h⟩ := gO_ex h
  obtain ⟨n, rfl, h⟩ := isI_ex h
  obtain ⟨y, hy, h⟩ := gO_ex h
  obtain ⟨m, rfl, h⟩ := isI_ex h
  obtain ⟨z, hz, h⟩ := gO_ex h
  obtain ⟨k, rfl, h0, h1, h2, h⟩ := isI_ex h
  simp only [hx, hy, hz, h1, h2, h0, and_self, if_true]; exact h
theorem rf_i {n : Int} {Q : Prop} (h : -1000000 ≤ n ∧ n ≤ 1000000) (k : Q) : rgFit n = true ∧ Q := by
  refine ⟨?_, k⟩
  unfold rgFit
  simp
  omega
end
/-! statements -/
section
variable {N : Rho → Prop} {T : D → Bool → Rho → Prop} {a b : CS} {c : CE} {t : CB} {g : D → Rho → Option Rho}
theorem s_seq (h : gS (a ρ) (fun ρ1 => gS (b ρ1) N T E) T E) : gS (cSeq a b ρ) N T E := by
  unfold cSeq
  cases hr : a ρ <;> (rw [hr] at h; exact h)
theorem s_skip (h : N ρ) : gS (cSkip ρ) N T E := h
theorem gS_to {r : R Pl} {k : Pl → Rho → RS} (h : gE r (fun p ρ1 => gS (k p ρ1) N T E) E) : gS (r.toS k) N T E := by
  cases r with
  | ok p ρ => exact h
  | exc x ρ => exact h
  | bad => exact h
theorem gS_toB {r : R Bool} {k : Bool → Rho → RS} (h : gE r (fun p ρ1 => gS (k p ρ1) N T E) E) : gS (r.toSB k) N T E := by
  cases r with
  | ok p ρ => exact h
  | exc x ρ => exact h
  | bad => exact h
theorem br_ifS {r s : RS} {k : Bool} (h : br k (gS r N T E) (gS s N T E)) : gS (if k = true then r else s) N T E := by
  cases k
  · exact h.2 rfl
  · exact h.1 rfl
theorem rt_gS {p : Pl} (h : rt p ρ T) : gS (retP p ρ) N T E := gS_mono h (fun _ z => z.elim) (fun _ _ _ z => z) (fun _ _ z => z.elim)
theorem s_ret (h : gE (c ρ) (fun p ρ1 => rt p ρ1 T) E) : gS (cRet c ρ) N T E := gS_to (gE_mono h fun _ _ h => rt_gS h)
theorem s_retN (h : T .none false ρ) : gS (cRetN ρ) N T E := h
theorem s_if (h : gE (t ρ) (fun k ρ1 => br k (gS (a ρ1) N T E) (gS (b ρ1) N T E)) E) : gS (cIf t a b ρ) N T E := gS_toB (gE_mono h fun _ _ h => br_ifS h)
theorem s_set (h : gE (c ρ) (fun p ρ1 => sto i p ρ1 N) E) : gS (cSet i c ρ) N T E := by
  unfold cSet
  refine gS_to (gE_mono h fun p ρ1 h => ?_)
  obtain ⟨x, hx, h⟩ := gO_ex h
  simp only [hx]; exact h
theorem s_drop (h : gE (c ρ) (fun _ ρ1 => N ρ1) E) : gS (cDrop c ρ) N T E := gS_to h
theorem s_raise {x : Str} (h : E ⟨x, []⟩ ρ) : gS (cRaise x ρ) N T E := h
theorem s_raiseA {x : Str} {fs : List Str} {ca : CA} (h : gE (ca ρ) (fun ps ρ1 => fzA ps ρ1 fun ds ρ2 => E ⟨x, putF fs ds []⟩ ρ2) E) : gS (cRaiseA x fs ca ρ) N T E := by
  unfold cRaiseA
  cases hr : ca ρ with
  | ok ps ρ1 =>
    rw [hr] at h
    obtain ⟨u, v, hu, h⟩ := gP_ex h
    simp only [hu]; exact h
  | exc x ρ1 => rw [hr] at h; exact h
  | bad => rw [hr] at h; exact h
def tryW (cs : List Str) (i : Nat) (ch : CS) (x : Xc) (ρ : Rho) (N : Rho → Prop) (T : D → Bool → Rho → Prop) : Prop :=
  cs.contains x.cls = true ∧ canSet ρ i = true ∧ gS (ch (ρ.set i (some (exD x.cls x.flds, .fz)))) (fun ρ2 => canSet ρ2 i = true ∧ N (ρ2.set i none)) T (fun _ _ => False)
theorem s_try {cs : List Str} (h : gS (a ρ) N T (fun x ρ1 => tryW cs i b x ρ1 N T)) : gS (cTry cs i a b ρ) N T E := by
  unfold cTry
  cases hr : a ρ with
  | exc x ρ1 =>
    rw [hr] at h
    obtain ⟨h1, h2, h3⟩ := h
    simp only [h1, h2, and_self, if_true]
    cases hb : b (ρ1.set i (some (exD x.cls x.flds, .fz))) with
    | nx ρ2 => rw [hb] at h3; simp only [h3.1, if_true]; exact h3.2
    | ret d fr ρ2 => rw [hb] at h3; exact h3
    | exc x ρ2 => rw [hb] at h3; exact h3.elim
    | bad => rw [hb] at h3; exact h3.elim
  | nx ρ1 => rw [hr] at h; exact h
  | ret d fr ρ1 => rw [hr] at h; exact h
  | bad => rw [hr] at h; exact h
theorem tryW_i {cs : List Str} {x : Str} {fl : List (Str × D)} (h1 : cs.contains x = true) (h2 : canSet ρ i = true) (e : ρ.set i (some (exD x fl, .fz)) = ρ1) (h : gS (b ρ1) (fun ρ2 => canSet ρ2 i = true ∧ setW ρ2 i none N) T (fun _ _ => False)) : tryW cs i b ⟨x, fl⟩ ρ N T := ⟨h1, h2, by rw [e]; exact h⟩
theorem s_for {ci : CI} (h : gE (ci ρ) (fun ds ρ1 => gS (forL g b ds ρ1) N T E) E) : gS (cFor ci g b ρ) N T E := by
  unfold cFor
  cases hr : ci ρ with
  | ok ds ρ1 => rw [hr] at h; exact h
  | exc x ρ1 => rw [hr] at h; exact h
  | bad => rw [hr] at h; exact h
theorem s_unp (h : gE (c ρ) (fun p ρ1 => fz1 p ρ1 fun d ρ2 => gO (g d ρ2) N) E) : gS (cUnp g c ρ) N T E := by
  unfold cUnp
  refine gS_to (gE_mono h fun p ρ1 h => ?_)
  obtain ⟨x, y, hx, h⟩ := gP_ex h
  obtain ⟨z, hz, h⟩ := gO_ex h
  simp only [hx, hz]; exact h
theorem s_aug {f : Int → Int → Int} (h : lk (.slot i) ρ fun d => isI d fun n => gE (c ρ) (fun p ρ1 => lk p ρ1 fun e => isI e fun m => sto i (.val (.int (f n m))) ρ1 N) E) : gS (cAugI i f c ρ) N T E := by
  unfold cAugI
  obtain ⟨x, hx, h⟩ := gO_ex h
  obtain ⟨n, rfl, h⟩ := isI_ex h
  simp only [hx]
  refine gS_to (gE_mono h fun p ρ1 h => ?_)
  obtain ⟨y, hy, h⟩ := gO_ex h
  obtain ⟨m, rfl, h⟩ := isI_ex h
  obtain ⟨z, hz, h⟩ := gO_ex h
  simp only [hy, hz]; exact h
theorem s_par {c2 : CE} (h : gE (c ρ) (fun p ρ1 => gE (c2 ρ1) (fun q ρ2 => fz1 p ρ2 fun d ρ3 => fz1 q ρ3 fun e ρ4 => sto i (.val d) ρ4 fun ρ5 => sto j (.val e) ρ5 N) E) E) : gS (cPar i j c c2 ρ) N T E := by
  have h' : gE (cCons c (cCons c2 cNil) ρ) (fun ps ρ2 => ∃ p q, ps = [p, q] ∧ fz1 p ρ2 fun d ρ3 => fz1 q ρ3 fun e ρ4 => sto i (.val d) ρ4 fun ρ5 => sto j (.val e) ρ5 N) E :=
    w_cons (gE_mono h fun p ρ1 h => w_cons (gE_mono h fun q ρ2 h => w_nil ⟨p, q, rfl, h⟩))
  unfold cPar
  cases hr : cCons c (cCons c2 cNil) ρ with
  | ok ps ρ1 =>
    rw [hr] at h'
    obtain ⟨p, q, rfl, h⟩ := h'
    obtain ⟨x, y, hx, h⟩ := gP_ex h
    obtain ⟨u, v, hu, h⟩ := gP_ex h
    obtain ⟨z, hz, h⟩ := gO_ex h
    obtain ⟨z2, hz2, h⟩ := gO_ex h
    have hf : frzA [p, q] ρ1 = some ([x, u], v) := by simp only [frzA, hx, hu]
    simp only [hf, hz, hz2]; exact h
  | exc x ρ1 => rw [hr] at h'; exact h'
  | bad => rw [hr] at h'; exact h'
def lsD (d : D) (Q : List D → Prop) : Prop := match d with
  | .list a => Q a
  | _ => False
theorem lsD_l {a : List D} {Q : List D → Prop} (h : Q a) : lsD (.list a) Q := h
theorem lsD_ex {Q : List D → Prop} (h : lsD d Q) : ∃ a, d = .list a ∧ Q a := by
  cases d <;> first | exact h.elim | exact ⟨_, rfl, h⟩
theorem at_rfl {a : List D} {k : Int} {e : D} {Q : D → Prop} (h : atI a k = some e) (q : Q e) : gO (atI a k) Q := gO_of h q
theorem putL_rfl {c k d c' : D} {Q : D → Prop} (h : putL c k d = some c') (q : Q c') : gO (putL c k d) Q := gO_of h q
theorem s_augS {f : D → D → D → Option D} {g0 : Int → Int → Int} {ck ce : CE} (h : ownW i ρ fun _ _ => gE (ck ρ) (fun p ρ1 => lk p ρ1 fun d => isI d fun k => ownW i ρ1 fun c _ => lsD c fun a => gO (atI a k) fun e => isI e fun n =>
    gE (ce ρ1) (fun q ρ2 => lk q ρ2 fun e2 => isI e2 fun b => ownW i ρ2 fun c2 m2 => gO (f c2 (.int k) (.int (g0 n b))) fun c' => setW ρ2 i (some (c', m2)) N) E) E) : gS (cAugS i f g0 ck ce ρ) N T E := by
  unfold cAugS
  obtain ⟨c0, m0, h0, h⟩ := gP_ex h
  simp only [h0]
  refine gS_to (gE_mono h fun p ρ1 h => ?_)
  obtain ⟨d, hd, h⟩ := gO_ex h
  obtain ⟨k, rfl, h⟩ := isI_ex h
  obtain ⟨c, m, hc, h⟩ := gP_ex h
  obtain ⟨a, rfl, h⟩ := lsD_ex h
  obtain ⟨e, he, h⟩ := gO_ex h
  obtain ⟨n, rfl, h⟩ := isI_ex h
  simp only [hd, hc, he]
  refine gS_to (gE_mono h fun q ρ2 h => ?_)
  obtain ⟨e2, he2, h⟩ := gO_ex h
  obtain ⟨b, rfl, h⟩ := isI_ex h
  obtain ⟨c2, m2, hc2, h⟩ := gP_ex h
  obtain ⟨c', hc', h⟩ := gO_ex h
  simp only [he2, hc2, hc']; exact h
/-- a walk, by what holds behind each prefix -/
theorem for_inv {α : Type} (xs : List α) (f : α → D) (I : List α → Rho → Prop) {ds : List D} (hds : ds = xs.map f) (h0 : I [] ρ) (hs : ∀ pre x post ρ, xs = pre ++ x :: post → I pre ρ → gO (g (f x) ρ) fun ρ1 => gS (b ρ1) (I (pre ++ [x])) T E) (hN : ∀ ρ, I xs ρ → N ρ) : gS (forL g b ds ρ) N T E := by
  subst hds
  have key : ∀ (post pre : List α) (ρ : Rho), xs = pre ++ post → I pre ρ → gS (forL g b (post.map f) ρ) N T E := by
    intro post
    induction post with
    | nil => intro pre ρ e h; rw [List.append_nil] at e; subst e; exact hN ρ h
    | cons x post ih =>
      intro pre ρ e h
      obtain ⟨ρ1, h1, h2⟩ := gO_ex (hs pre x post ρ e h)
      rw [List.map_cons, forL]
      simp only [h1]
      cases hb : b ρ1 with
      | nx ρ2 => rw [hb] at h2; exact ih (pre ++ [x]) ρ2 (by rw [e]; simp) h2
      | ret d fr ρ2 => rw [hb] at h2; exact h2
      | exc x ρ2 => rw [hb] at h2; exact h2
      | bad => rw [hb] at h2; exact h2
  exact key xs [] ρ rfl h0
end
/-! targets -/
section
variable {N : Rho → Prop}
theorem t_nm (h : sto i (.val d) ρ N) : gO (gNm i d ρ) N := h
theorem t_tp {n : Nat} {g : List D → Rho → Option Rho} (hl : ds.length = n) (h : gO (g ds ρ) N) : gO (gTp n g (.tuple ds) ρ) N := by
  unfold gTp; simp only [hl, if_true]; exact h
theorem t_tie {t : Nat × Nat} {g : List D → Rho → Option Rho} (h : gO (g [.int (t.1 : Nat), .int (t.2 : Nat)] ρ) N) : gO (gTp 2 g (tieD t) ρ) N := h
theorem t_nil (h : N ρ) : gO (gsNil [] ρ) N := h
theorem t_cons {g : D → Rho → Option Rho} {r : List D → Rho → Option Rho} (h : gO (g d ρ) fun ρ1 => gO (r ds ρ1) N) : gO (gsCons g r (d :: ds) ρ) N := by
  obtain ⟨x, hx, h⟩ := gO_ex h
  unfold gsCons
  simp only [hx]; exact h
theorem t_put {f : D → D → D → Option D} {ck : CE} (h : ownW i ρ fun _ _ => gE (ck ρ) (fun p ρ1 => fz1 p ρ1 fun k ρ2 => ownW i ρ2 fun c m => gO (f c k d) fun c' => setW ρ2 i (some (c', m)) N) (fun _ _ => False)) : gO (gPut i f ck d ρ) N := by
  unfold gPut
  obtain ⟨c0, m0, hc0, h⟩ := gP_ex h
  simp only [hc0]
  unfold cFz
  cases hr : ck ρ with
  | ok p ρ1 =>
    rw [hr] at h
    obtain ⟨k, ρ2, hk, h⟩ := gP_ex h
    obtain ⟨c, m, hc, h⟩ := gP_ex h
    obtain ⟨c', hc', h⟩ := gO_ex h
    simp only [R.bind, hk, hc, hc']; exact h
  | exc x ρ1 => rw [hr] at h; exact h.elim
  | bad => rw [hr] at h; exact h.elim
end
/-! comprehensions -/
section
variable {Q : Pl → Rho → Prop} {g : D → Rho → Option Rho} {t : CB} {e : CE} {vs : List Nat}
theorem elW_i {x : D} {P : Option D → Rho → Prop} (h : gO (g x ρ) fun ρ1 => gE (t ρ1) (fun b ρ2 => br b (gE (e ρ2) (fun p ρ3 => fz1 p ρ3 fun d ρ4 => wpd vs ρ4 (P (some d))) (fun _ _ => False)) (wpd vs ρ2 (P none))) (fun _ _ => False)) : elW g t e vs ρ x P := h
theorem elW_comp {x : D} {P : Option D → Rho → Prop} (h : elW g t e vs ρ x P) : ∃ o ρ', P o ρ' ∧ ∀ (ds acc : List D), acc.length < 16777216 → compL g t e vs (x :: ds) acc ρ = compL g t e vs ds (acc ++ o.toList) ρ' := by
  obtain ⟨ρ1, h1, h⟩ := gO_ex h
  cases ht : t ρ1 with
  | ok b ρ2 =>
    rw [ht] at h
    cases b with
    | false =>
      obtain ⟨hw, h⟩ := h.2 rfl
      refine ⟨none, _, h, fun ds acc _ => ?_⟩
      rw [compL]
      simp only [h1, ht, hw, if_true, Option.toList, List.append_nil]
    | true =>
      have h := h.1 rfl
      cases he : e ρ2 with
      | ok p ρ3 =>
        rw [he] at h
        obtain ⟨d, ρ4, hd, hw, h⟩ := gP_ex h
        refine ⟨some d, _, h, fun ds acc hl => ?_⟩
        rw [compL]
        simp only [h1, ht, he, hd, hw, hl, and_self, if_true, Option.toList]
      | exc x ρ3 => rw [he] at h; exact h.elim
      | bad => rw [he] at h; exact h.elim
  | exc x ρ2 => rw [ht] at h; exact h.elim
  | bad => rw [ht] at h; exact h.elim
theorem cp_inv {α : Type} (xs : List α) (f : α → D) (I : List α → List D → Rho → Prop) {ds : List D} (hds : ds = xs.map f) (hl : xs.length ≤ 1000000) (hw : wipeOk ρ vs = true) (ew : wipeR ρ vs = ρ1) (h0 : I [] [] ρ1)
    (hs : ∀ pre x post acc ρ, xs = pre ++ x :: post → I pre acc ρ → elW g t e vs ρ (f x) fun o ρ' => I (pre ++ [x]) (acc ++ o.toList) ρ') (hN : ∀ acc ρ2, I xs acc ρ2 → setB ρ ρ2 vs (Q (.tmp (.list acc)))) : cpW ds g t e vs ρ Q := by
  subst hds
  refine ⟨hw, ?_⟩
  rw [ew]
  have key : ∀ (post pre : List α) (acc : List D) (ρ' : Rho), xs = pre ++ post → acc.length ≤ pre.length → I pre acc ρ' → gE (compL g t e vs (post.map f) acc ρ') (fun acc ρ2 => Q (.tmp (.list acc)) (backR ρ ρ2 vs)) (fun _ _ => False) := by
    intro post
    induction post with
    | nil => intro pre acc ρ' e _ h; rw [List.append_nil] at e; subst e; exact hN acc ρ' h
    | cons x post ih =>
      intro pre acc ρ' e hal h
      obtain ⟨o, ρ2, h2, h3⟩ := elW_comp (hs pre x post acc ρ' e h)
      have hxl : pre.length < xs.length := by rw [e]; simp
      rw [List.map_cons, h3 _ _ (by omega)]
      refine ih (pre ++ [x]) _ ρ2 (by rw [e]; simp) ?_ h2
      cases o <;> simp <;> omega
  exact key xs [] [] ρ1 rfl (Nat.le_refl _) h0
theorem cp_map {α : Type} (xs : List α) (f out : α → D) {ds : List D} (hds : ds = xs.map f) (hl : xs.length ≤ 1000000) (hw : wipeOk ρ vs = true) (ew : wipeR ρ vs = ρ1)
    (hs : ∀ x ∈ xs, elW g t e vs ρ1 (f x) fun o ρ' => o = some (out x) ∧ ρ' = ρ1) (k : Q (.tmp (.list (xs.map out))) ρ) : cpW ds g t e vs ρ Q := by
  refine cp_inv xs f (fun pre acc ρ' => acc = pre.map out ∧ ρ' = ρ1) hds hl hw ew ⟨rfl, rfl⟩ (fun pre x post acc ρ' he h => ?_) fun acc ρ2 h => ?_
  · obtain ⟨rfl, rfl⟩ := h
    have h2 := hs x (by rw [he]; simp)
    have mono : ∀ {P P' : Option D → Rho → Prop}, (∀ o ρ, P o ρ → P' o ρ) → elW g t e vs ρ' (f x) P → elW g t e vs ρ' (f x) P' := by
      intro P P' hp h
      obtain ⟨ρ1, h1, h⟩ := gO_ex h
      refine gO_of h1 ?_
      refine gE_mono h fun b ρ2 h => ⟨fun hb => gE_mono (h.1 hb) fun p ρ3 h => ?_, fun hb => ⟨(h.2 hb).1, hp _ _ (h.2 hb).2⟩⟩
      obtain ⟨d, ρ4, hd, h⟩ := gP_ex h
      exact gP_of hd ⟨h.1, hp _ _ h.2⟩
    refine mono (fun o ρ h => ?_) h2
    obtain ⟨rfl, rfl⟩ := h
    simp
  · obtain ⟨rfl, rfl⟩ := h
    unfold setB; rw [← ew, back_wipe]; exact k
end
/-! calls -/
section
variable {Q : Pl → Rho → Prop} {M : FM} {ps : List Pl} {as : List (D × Md)} {outs : List Slot} {x : Xc}
theorem c_rv (h : ps.all noSlot = true) (ha : argsOf ps ρ = some as) (hM : (M as).rv = some (d, false)) (k : Q (.val d) ρ) : gE (callM M ps ρ) Q E := gE_ok (callM_rv h ha hM) k
theorem c_rvT (h : ps.all noSlot = true) (ha : argsOf ps ρ = some as) (hM : (M as).rv = some (d, true)) (k : Q (.tmp d) ρ) : gE (callM M ps ρ) Q E := gE_ok (callM_rv h ha hM) k
theorem callM_g {fr : Bool} {ρ' : Rho} (ha : argsOf ps ρ = some as) (nd : noDup ps = true) (hM : M as = .ok d fr outs) (hg : gb ps outs 0 ρ = ρ') : callM M ps ρ = .ok (plR d fr) ρ' := by
  unfold callM
  simp only [ha, nd, if_true, hM, hg]
theorem c_gen (ha : argsOf ps ρ = some as) (nd : noDup ps = true) (hM : M as = .ok d false outs) (hg : gb ps outs 0 ρ = ρ1) (k : Q (.val d) ρ1) : gE (callM M ps ρ) Q E := gE_ok (callM_g ha nd hM hg) k
theorem c_genT (ha : argsOf ps ρ = some as) (nd : noDup ps = true) (hM : M as = .ok d true outs) (hg : gb ps outs 0 ρ = ρ1) (k : Q (.tmp d) ρ1) : gE (callM M ps ρ) Q E := gE_ok (callM_g ha nd hM hg) k
theorem c_draw {p : Pen} {m : Int} {md : Md} (hi : ρ[i]? = some (some (p.d, md))) (hm : md = .own ∨ md = .lent) (h0 : 0 < m ∧ m < 10000000000000000000000000000000000000000000000000000000000000000000000) (k : ∀ (v : Int) (p' : Pen), 0 ≤ v ∧ v < m → setW ρ i (some (p'.d, md)) fun ρ' => Q (.val (.int v)) ρ') : gE (callM MMDraw [.slot i, .val (.int m)] ρ) Q E :=
  gE_ok (draw_call hi hm h0.1 h0.2) (k _ _ ⟨p.draw_ge h0.1, p.draw_lt h0.1⟩)
end
section
theorem c_pen {Q : Pl → Rho → Prop} {c : Int} (k : ∀ p : Pen, Q (.tmp p.d) ρ) : gE (callM MMPen [.val (.int c)] ρ) Q E := gE_ok (pen_call c) (k _)
end
/-! defs -/
section
variable {n m : Nat} {c : CS} {as : List (D × Md)} {fr : Bool} {r : FR} {o : List Slot} {x : Xc}
theorem gF_mk {T : D → Bool → List Slot → Prop} {E : Xc → List Slot → Prop} (hl : as.length = n) (h : gS (c (as.map some ++ List.replicate (m - n) none)) (fun ρ => T .none false (ρ.take n)) (fun d fr ρ => T d fr (ρ.take n)) (fun x ρ => E x (ρ.take n))) : gF (mkF n m c as) T E := by
  unfold mkF
  simp only [hl, if_true]
  cases hc : c (as.map some ++ List.replicate (m - n) none) <;> (rw [hc] at h; exact h)
theorem rv_gF (h : gF r (fun d' fr' _ => d' = d ∧ fr' = fr) (fun _ _ => False)) : r.rv = some (d, fr) := by
  cases r with
  | ok a b o => obtain ⟨rfl, rfl⟩ := h; rfl
  | exc x o => exact h.elim
  | bad => exact h.elim
theorem ok_gF (h : gF r (fun d' fr' o' => d' = d ∧ fr' = fr ∧ o' = o) (fun _ _ => False)) : r = .ok d fr o := by
  cases r with
  | ok a b o => obtain ⟨rfl, rfl, rfl⟩ := h; rfl
  | exc x o => exact h.elim
  | bad => exact h.elim
theorem ex_gF {T : D → Bool → List Slot → Prop} (h : gF r T (fun _ _ => False)) : ∃ d fr o, r = .ok d fr o ∧ T d fr o := by
  cases r with
  | ok a b o => exact ⟨a, b, o, rfl, h⟩
  | exc x o => exact h.elim
  | bad => exact h.elim
end
end
/-! what operators give, asked for from the end -/
section
variable {Q : Pl → Prop} {i j : Int} {a b : List D} {P : D → D → Prop} {x : D}
theorem ty_i {T : String} {d : D} {A : Prop} (h : tyOk T d = true) (k : A) : tyOk T d = true ∧ A := ⟨h, k⟩
theorem o_add (h : Q (.val (.int (i + j)))) : gO (opAdd (.int i) (.int j)) Q := h
theorem o_sub (h : Q (.val (.int (i - j)))) : gO (opSub (.int i) (.int j)) Q := h
theorem o_neg (h : Q (.val (.int (-i)))) : gO (opNeg (.int i)) Q := h
theorem o_mul (hb : (-1000000000 < i ∧ i < 1000000000) ∨ (-1000000000 < j ∧ j < 1000000000)) (h : Q (.val (.int (i * j)))) : gO (opMul (.int i) (.int j)) Q := by
  refine gO_of ?_ h
  rw [opMul_i, if_pos]
  unfold mulB
  rcases hb with hb | hb
  · simp; left; omega
  · simp; right; omega
theorem o_mod (hb : 0 < j) (h : Q (.val (.int (i % j)))) : gO (opMod (.int i) (.int j)) Q := gO_of (by rw [opMod_i, if_pos hb]) h
theorem o_div (hb : 0 < j ∧ j < 1000000000) (h : Q (.val (.int (i / j)))) : gO (opDiv (.int i) (.int j)) Q := gO_of (by rw [opDiv_i, if_pos ⟨hb.1, by omega⟩]) h
theorem o_ltG {f : Int → Int → Bool} (h : Q (.val (.bool (f i j)))) : gO (opLtG f (.int i) (.int j)) Q := h
theorem o_eqI (h : Q (.val (.bool (decide (i = j))))) : gO (opEq (.int i) (.int j)) Q := gO_of (opEq_int _ _) h
theorem o_neI (h : Q (.val (.bool (!decide (i = j))))) : gO (opNe (.int i) (.int j)) Q := gO_of (opNe_int _ _) h
theorem o_eqB {a b : Bool} (h : Q (.val (.bool (a == b)))) : gO (opEq (.bool a) (.bool b)) Q := gO_of (opEq_bool _ _) h
theorem o_neB {a b : Bool} (h : Q (.val (.bool (!(a == b))))) : gO (opNe (.bool a) (.bool b)) Q := gO_of (opNe_bool _ _) h
theorem o_eqL {a b : List Int} (h : Q (.val (.bool (decide (a = b))))) : gO (opEq (.list (a.map .int)) (.list (b.map .int))) Q := gO_of (opEq_ints _ _) h
theorem o_neL {a b : List Int} (h : Q (.val (.bool (!decide (a = b))))) : gO (opNe (.list (a.map .int)) (.list (b.map .int))) Q := gO_of (opNe_ints _ _) h
theorem o_eqT {a b : List Int} (h : Q (.val (.bool (decide (a = b))))) : gO (opEq (.tuple (a.map .int)) (.tuple (b.map .int))) Q := gO_of (opEq_tints _ _) h
theorem o_neT {a b : List Int} (h : Q (.val (.bool (!decide (a = b))))) : gO (opNe (.tuple (a.map .int)) (.tuple (b.map .int))) Q := gO_of (opNe_tints _ _) h
theorem o_isN (h : Q (.val (.bool (isNonD x)))) : gO (opIsN x .none) Q := h
theorem o_notN (h : Q (.val (.bool (!isNonD x)))) : gO (opNotN x .none) Q := h
theorem o_tup (h : Q (.val (.bool (isTupD x)))) : gO (opIsi "tuple" x) Q := gO_of (isi_tuple x) h
theorem o_lst (h : Q (.val (.bool (isLstD x)))) : gO (opIsi "list" x) Q := gO_of (isi_list x) h
theorem o_bool (h : Q (.val (.bool (isBoolD x)))) : gO (opIsi "bool" x) Q := gO_of (isi_bool x) h
theorem o_lenM {α : Type} {xs : List α} {f : α → D} (h : Q (.val (.int (xs.length : Nat)))) : gO (fLen [.list (xs.map f)]) Q := gO_of (by rw [fLen_l, List.length_map]) h
theorem o_lenMt {α : Type} {xs : List α} {f : α → D} (h : Q (.val (.int (xs.length : Nat)))) : gO (fLen [.tuple (xs.map f)]) Q := gO_of (by rw [fLen_t, List.length_map]) h
theorem o_lenL (h : Q (.val (.int (a.length : Nat)))) : gO (fLen [.list a]) Q := h
theorem o_lenT (h : Q (.val (.int (a.length : Nat)))) : gO (fLen [.tuple a]) Q := h
theorem o_intI (h : Q (.val (.int i))) : gO (fInt [.int i]) Q := h
theorem o_intB {b : Bool} (h : Q (.val (.int (if b = true then 1 else 0)))) : gO (fInt [.bool b]) Q := h
theorem o_abs (h : Q (.val (.int (absI i)))) : gO (fAbs [.int i]) Q := h
theorem o_max2 (h : Q (.val (.int (max i j)))) : gO (fMax2 [.int i, .int j]) Q := by
  have : (if j > i then j else i) = max i j := by split <;> omega
  rw [← this] at h; exact h
theorem o_min2 (h : Q (.val (.int (min i j)))) : gO (fMin2 [.int i, .int j]) Q := by
  have : (if j < i then j else i) = min i j := by split <;> omega
  rw [← this] at h; exact h
theorem o_tupL (h : Q (.val (.tuple a))) : gO (fTuple [.list a]) Q := h
theorem o_tupT (h : Q (.val (.tuple a))) : gO (fTuple [.tuple a]) Q := h
theorem o_lstL (h : Q (.tmp (.list a))) : gO (fListA [.list a]) Q := h
theorem o_lstT (h : Q (.tmp (.list a))) : gO (fListA [.tuple a]) Q := h
theorem o_sumL {ns : List Int} (h : Q (.val (.int ns.sum))) : gO (fSum [.list (ns.map .int)]) Q := gO_of (fSum_l _) h
theorem o_sumT {ns : List Int} (h : Q (.val (.int ns.sum))) : gO (fSum [.tuple (ns.map .int)]) Q := gO_of (fSum_t _) h
theorem o_sortL {ns : List Int} (hl : ns.length ≤ 16777216) (h : Q (.tmp (.list ((sortI ns).map .int)))) : gO (fSorted [.list (ns.map .int)]) Q := gO_of (fSorted_l _ hl) h
theorem o_sortT {ns : List Int} (hl : ns.length ≤ 16777216) (h : Q (.tmp (.list ((sortI ns).map .int)))) : gO (fSorted [.tuple (ns.map .int)]) Q := gO_of (fSorted_t _ hl) h
theorem o_setL {ns : List Int} (hl : ns.length ≤ 4000) (h : Q (.val (.int ((ddI ns).length : Nat)))) : gO (fLenSet (.list (ns.map .int))) Q := gO_of (fLenSet_l _ hl) h
theorem o_setT {ns : List Int} (hl : ns.length ≤ 4000) (h : Q (.val (.int ((ddI ns).length : Nat)))) : gO (fLenSet (.tuple (ns.map .int))) Q := gO_of (fLenSet_t _ hl) h
theorem o_webN {n : Nat} {ts : List (Nat × Nat)} (h : Q (.val (.int (n : Nat)))) : gO (opIx (webD n ts) (.int 0)) Q := h
theorem o_webT {n : Nat} {ts : List (Nat × Nat)} (h : Q (.val (.tuple (ts.map tieD)))) : gO (opIx (webD n ts) (.int 1)) Q := h
theorem o_seqL {Q : List D → Prop} (h : Q a) : gO (seqD (.list a)) Q := h
theorem o_seqT {Q : List D → Prop} (h : Q a) : gO (seqD (.tuple a)) Q := h
theorem o_sqL {Q : List D → Prop} (h : Q a) : gO (seqOf (.list a)) Q := h
theorem o_sqT {Q : List D → Prop} (h : Q a) : gO (seqOf (.tuple a)) Q := h
theorem o_allM {α : Type} {xs : List α} {f : α → Bool} (h : Q (.val (.bool (xs.all f)))) : gO (fAll [.list (xs.map fun x => .bool (f x))]) Q := gO_of (fAll_map _ _) h
theorem o_addT (hl : a.length + b.length ≤ 16777216) (h : Q (.val (.tuple (a ++ b)))) : gO (opAdd (.tuple a) (.tuple b)) Q := gO_of (opAdd_tt hl) h
theorem o_addL (hl : a.length + b.length ≤ 16777216) (h : Q (.tmp (.list (a ++ b)))) : gO (opAdd (.list a) (.list b)) Q := gO_of (opAdd_ll hl) h
theorem o_slL {lo hi : Option Int} (h : Q (.tmp (.list (cutL a lo hi)))) : gO (opSl (.list a) lo hi) Q := h
theorem o_slT {lo hi : Option Int} (h : Q (.val (.tuple (cutL a lo hi)))) : gO (opSl (.tuple a) lo hi) Q := h
theorem o_app (hl : a.length < 16777216) (h : P (.list (a ++ [x])) .none) : gP (fAppend (.list a) [x]) P := gP_of (app_i hl) h
theorem o_extL (hl : a.length + b.length ≤ 16777216) (h : P (.list (a ++ b)) .none) : gP (fExtend (.list a) [.list b]) P := gP_of (ext_l hl) h
theorem o_extT (hl : a.length + b.length ≤ 16777216) (h : P (.list (a ++ b)) .none) : gP (fExtend (.list a) [.tuple b]) P := gP_of (ext_t hl) h
theorem o_eqS {a b : Str} (ha : PyData.strOk a = true) (hb : PyData.strOk b = true) (h : Q (.val (.bool (a == b)))) : gO (opEq (.str a) (.str b)) Q := gO_of (opEq_str a b ha hb) h
theorem o_neS {a b : Str} (ha : PyData.strOk a = true) (hb : PyData.strOk b = true) (h : Q (.val (.bool (!(a == b))))) : gO (opNe (.str a) (.str b)) Q := by
  refine gO_of ?_ h
  unfold opNe
  rw [if_pos ⟨shaped_str ha, shaped_str hb⟩]
  simp [PyData.eqv]
theorem o_strS {a : Str} (h : Q (.val (.bool true))) : gO (opIsi "str" (.str a)) Q := h
theorem fAll_true {α : Type} (xs : List α) : fAll [.list (xs.map fun _ => PyData.bool true)] = some (.val (.bool true)) := by
  rw [fAll_map xs fun _ => true]; simp
theorem o_allT {α : Type} {xs : List α} (h : Q (.val (.bool true))) : gO (fAll [.list (xs.map fun _ => PyData.bool true)]) Q := gO_of (fAll_true xs) h
theorem ix_rfl {x y : D} {r : Pl} (h : opIx x y = some r) (k : Q r) : gO (opIx x y) Q := gO_of h k
theorem put_rfl {c k d c' : D} {Q : D → Prop} (h : putA c k d = some c') (q : Q c') : gO (putA c k d) Q := gO_of h q
end
theorem gO_of_mono {α : Type} {o : Option α} {P P' : α → Prop} (h : gO o P) (k : ∀ x, P x → P' x) : gO o P' := by
  cases o with
  | none => exact h
  | some x => exact k x h
theorem cp_rngI {ρ ρ1 : Rho} {g : D → Rho → Option Rho} {Q : Pl → Rho → Prop} {t : CB} {c : CE} {vs : List Nat} {e : Int} (n : Nat) (I : Nat → List D → Rho → Prop) (he : e = (n : Nat)) (hl : n ≤ 1000000) (hw : wipeOk ρ vs = true) (ew : wipeR ρ vs = ρ1) (h0 : I 0 [] ρ1)
    (hs : ∀ k acc ρ, k < n → I k acc ρ → elW g t c vs ρ (.int (k : Nat)) fun o ρ' => I (k + 1) (acc ++ o.toList) ρ') (hN : ∀ acc ρ2, I n acc ρ2 → setB ρ ρ2 vs (Q (.tmp (.list acc)))) : cpW (rgD 0 e) g t c vs ρ Q := by
  subst he
  refine cp_inv (List.range n) (fun (k : Nat) => .int (k : Nat)) (fun pre acc ρ => I pre.length acc ρ) (rgD_nat n) (by simpa using hl) hw ew h0 (fun pre x post acc ρ he hI => ?_) fun acc ρ2 h => hN acc ρ2 (by rw [List.length_range] at h; exact h)
  obtain ⟨rfl, hx⟩ := rng_at he
  rw [List.length_append]
  exact hs pre.length acc ρ hx hI
end TNO
namespace TN
open PySem PySem.Spec PyProof.Rows L2
/-! the same over words that nothing unfolds by itself -/
/-! what is wanted of a run, told from its end: each step leads to what is wanted of the next -/
@[irreducible] def gE {α : Type} (r : R α) (Q : α → Rho → Prop) (E : Xc → Rho → Prop) : Prop := TNO.gE r Q E
@[irreducible] def gS (r : RS) (N : Rho → Prop) (T : D → Bool → Rho → Prop) (E : Xc → Rho → Prop) : Prop := TNO.gS r N T E
abbrev gF (r : FR) (T : D → Bool → List Slot → Prop) (E : Xc → List Slot → Prop) : Prop := TNO.gF r T E
@[irreducible] def gO {α : Type} (o : Option α) (Q : α → Prop) : Prop := TNO.gO o Q
@[irreducible] def gP {α β : Type} (o : Option (α × β)) (Q : α → β → Prop) : Prop := TNO.gP o Q
@[irreducible] def lk (p : Pl) (ρ : Rho) (Q : D → Prop) : Prop := TNO.lk p ρ Q
@[irreducible] def lkA (ps : List Pl) (ρ : Rho) (Q : List D → Prop) : Prop := TNO.lkA ps ρ Q
@[irreducible] def fz1 (p : Pl) (ρ : Rho) (Q : D → Rho → Prop) : Prop := TNO.fz1 p ρ Q
@[irreducible] def fzA (ps : List Pl) (ρ : Rho) (Q : List D → Rho → Prop) : Prop := TNO.fzA ps ρ Q
@[irreducible] def br (b : Bool) (A B : Prop) : Prop := TNO.br b A B
@[irreducible] def isB (d : D) (Q : Bool → Prop) : Prop := TNO.isB d Q
@[irreducible] def isI (d : D) (Q : Int → Prop) : Prop := TNO.isI d Q
@[irreducible] def sto (i : Nat) (p : Pl) (ρ : Rho) (N : Rho → Prop) : Prop := TNO.sto i p ρ N
@[irreducible] def setW (ρ : Rho) (i : Nat) (s : Slot) (N : Rho → Prop) : Prop := TNO.setW ρ i s N
@[irreducible] def ownW (i : Nat) (ρ : Rho) (Q : D → Md → Prop) : Prop := TNO.ownW i ρ Q
@[irreducible] def prW (p : Int × Int) (F : Int → Int → Prop) : Prop := TNO.prW p F
@[irreducible] def lenW (ds : List D) (P : Prop) : Prop := TNO.lenW ds P
@[irreducible] def rt (p : Pl) (ρ : Rho) (T : D → Bool → Rho → Prop) : Prop := TNO.rt p ρ T
@[irreducible] def wpd (vs : List Nat) (ρ : Rho) (N : Rho → Prop) : Prop := TNO.wpd vs ρ N
@[irreducible] def elW (g : D → Rho → Option Rho) (t : CB) (e : CE) (vs : List Nat) (ρ : Rho) (x : D) (P : Option D → Rho → Prop) : Prop := TNO.elW g t e vs ρ x P
@[irreducible] def cpW (ds : List D) (g : D → Rho → Option Rho) (t : CB) (e : CE) (vs : List Nat) (ρ : Rho) (Q : Pl → Rho → Prop) : Prop := TNO.cpW ds g t e vs ρ Q
/-- a slot that may be set -/
abbrev okS (s : Slot) : Prop := TNO.okS s
section
variable {α : Type} {ρ ρ1 ρ2 : Rho} {E : Xc → Rho → Prop} {d : D} {ds : List D} {i j : Nat}
theorem gE_mono {r : R α} {Q Q' : α → Rho → Prop} (h : gE r Q E) (k : ∀ p ρ, Q p ρ → Q' p ρ) : gE r Q' E := by with_unfolding_all exact TNO.gE_mono h k
theorem gE_bind {β : Type} {r : R α} {k : α → Rho → R β} {Q : β → Rho → Prop} (h : gE r (fun p ρ1 => gE (k p ρ1) Q E) E) : gE (r.bind k) Q E := by with_unfolding_all exact TNO.gE_bind h
theorem gO_ex {o : Option α} {Q : α → Prop} (h : gO o Q) : ∃ x, o = some x ∧ Q x := by with_unfolding_all exact TNO.gO_ex h
theorem gO_of {o : Option α} {x : α} {Q : α → Prop} (h : o = some x) (k : Q x) : gO o Q := by with_unfolding_all exact TNO.gO_of h k
theorem gP_of {β : Type} {o : Option (α × β)} {x : α} {y : β} {Q : α → β → Prop} (h : o = some (x, y)) (k : Q x y) : gP o Q := by with_unfolding_all exact TNO.gP_of h k
theorem isB_b {b : Bool} {Q : Bool → Prop} (h : Q b) : isB (.bool b) Q := by with_unfolding_all exact TNO.isB_b h
theorem isI_i {b : Int} {Q : Int → Prop} (h : Q b) : isI (.int b) Q := by with_unfolding_all exact TNO.isI_i h
theorem gE_ok {r : R α} {a : α} {Q : α → Rho → Prop} (h : r = .ok a ρ1) (k : Q a ρ1) : gE r Q E := by with_unfolding_all exact TNO.gE_ok h k
/-! truths -/
section
variable {A B : Prop}
theorem br_true (h : A) : br true A B := by with_unfolding_all exact TNO.br_true h
theorem br_false (h : B) : br false A B := by with_unfolding_all exact TNO.br_false h
theorem br_not {b : Bool} (h : br b B A) : br (!b) A B := by with_unfolding_all exact TNO.br_not h
theorem br_t {b : Bool} (h : b = true) (k : A) : br b A B := by with_unfolding_all exact TNO.br_t h k
theorem br_f {b : Bool} (h : b = false) (k : B) : br b A B := by with_unfolding_all exact TNO.br_f h k
theorem br_p {p : Prop} [Decidable p] (h : p) (k : A) : br (decide p) A B := by with_unfolding_all exact TNO.br_p h k
theorem br_n {p : Prop} [Decidable p] (h : ¬ p) (k : B) : br (decide p) A B := by with_unfolding_all exact TNO.br_n h k
theorem br_dec {p : Prop} [Decidable p] (h1 : p → A) (h2 : ¬ p → B) : br (decide p) A B := by with_unfolding_all exact TNO.br_dec h1 h2
theorem br_and {a b : Bool} (h : br a (br b A B) B) : br (a && b) A B := by with_unfolding_all exact TNO.br_and h
theorem br_or {a b : Bool} (h : br a A (br b A B)) : br (a || b) A B := by with_unfolding_all exact TNO.br_or h
theorem br_sT {a b : String} (h : (Str.ofString a == Str.ofString b) = true) (k : A) : br (Str.ofString a == Str.ofString b) A B := by with_unfolding_all exact TNO.br_sT h k
theorem br_sF {a b : String} (h : (Str.ofString a == Str.ofString b) = false) (k : B) : br (Str.ofString a == Str.ofString b) A B := by with_unfolding_all exact TNO.br_sF h k
end
/-! looking -/
theorem lk_val {Q : D → Prop} (h : Q d) : lk (.val d) ρ Q := by with_unfolding_all exact TNO.lk_val h
theorem lk_tmp {Q : D → Prop} (h : Q d) : lk (.tmp d) ρ Q := by with_unfolding_all exact TNO.lk_tmp h
theorem lk_slot {m : Md} {Q : D → Prop} (h : ρ[i]? = some (some (d, m))) (k : Q d) : lk (.slot i) ρ Q := by with_unfolding_all exact TNO.lk_slot h k
theorem lkA_nil {Q : List D → Prop} (h : Q []) : lkA [] ρ Q := by with_unfolding_all exact TNO.lkA_nil h
theorem lkA_cons {p : Pl} {ps : List Pl} {Q : List D → Prop} (h : lk p ρ fun d => lkA ps ρ fun ds => Q (d :: ds)) : lkA (p :: ps) ρ Q := by with_unfolding_all exact TNO.lkA_cons h
theorem fz1_val {Q : D → Rho → Prop} (h : Q d ρ) : fz1 (.val d) ρ Q := by with_unfolding_all exact TNO.fz1_val h
theorem fz1_tmp {Q : D → Rho → Prop} (h : Q d ρ) : fz1 (.tmp d) ρ Q := by with_unfolding_all exact TNO.fz1_tmp h
theorem fz1_own {Q : D → Rho → Prop} (h : ρ[i]? = some (some (d, .own))) (e : ρ.set i (some (d, .fz)) = ρ1) (k : Q d ρ1) : fz1 (.slot i) ρ Q := by with_unfolding_all exact TNO.fz1_own h e k
theorem fz1_lent {Q : D → Rho → Prop} (h : ρ[i]? = some (some (d, .lent))) (e : ρ.set i (some (d, .lz)) = ρ1) (k : Q d ρ1) : fz1 (.slot i) ρ Q := by with_unfolding_all exact TNO.fz1_lent h e k
theorem fzA_nil {Q : List D → Rho → Prop} (h : Q [] ρ) : fzA [] ρ Q := by with_unfolding_all exact TNO.fzA_nil h
theorem fzA_cons {p : Pl} {ps : List Pl} {Q : List D → Rho → Prop} (h : fz1 p ρ fun d ρ1 => fzA ps ρ1 fun ds => Q (d :: ds)) : fzA (p :: ps) ρ Q := by with_unfolding_all exact TNO.fzA_cons h
theorem lenW_i {P : Prop} (h : ds.length ≤ 16777216) (k : P) : lenW ds P := by with_unfolding_all exact TNO.lenW_i h k
theorem len_nil {n : Nat} : ([] : List D).length ≤ n := by with_unfolding_all exact TNO.len_nil
theorem len_cons {n : Nat} (h : ds.length ≤ n) : (d :: ds).length ≤ n + 1 := by with_unfolding_all exact TNO.len_cons h
theorem st0 {s s' : Slot} : (s :: ρ).set 0 s' = s' :: ρ := by with_unfolding_all exact TNO.st0
theorem stS {s s' : Slot} (h : ρ.set i s' = ρ1) : (s :: ρ).set (i + 1) s' = s :: ρ1 := by with_unfolding_all exact TNO.stS h
theorem setW_i {s : Slot} {N : Rho → Prop} (e : ρ.set i s = ρ1) (k : N ρ1) : setW ρ i s N := by with_unfolding_all exact TNO.setW_i e k
theorem ownW_own {Q : D → Md → Prop} (h : ρ[i]? = some (some (d, .own))) (k : Q d .own) : ownW i ρ Q := by with_unfolding_all exact TNO.ownW_own h k
theorem ownW_lent {Q : D → Md → Prop} (h : ρ[i]? = some (some (d, .lent))) (k : Q d .lent) : ownW i ρ Q := by with_unfolding_all exact TNO.ownW_lent h k
theorem can_ok {s : Slot} (h : ρ[i]? = some s) (hs : okS s) : canSet ρ i = true := by with_unfolding_all exact TNO.can_ok h hs
theorem okS_jk {k : Option D} : okS (jk k) := by with_unfolding_all exact TNO.okS_jk
theorem okS_fz : okS (some (d, .fz)) := by with_unfolding_all exact TNO.okS_fz
theorem okS_own : okS (some (d, .own)) := by with_unfolding_all exact TNO.okS_own
theorem okS_md {md : Md} (h : md = .own ∨ md = .fz) : okS (some (d, md)) := by with_unfolding_all exact TNO.okS_md h
theorem sto_val {N : Rho → Prop} (h : canSet ρ i = true) (e : ρ.set i (some (d, .fz)) = ρ1) (k : N ρ1) : sto i (.val d) ρ N := by with_unfolding_all exact TNO.sto_val h e k
theorem sto_tmp {N : Rho → Prop} (h : canSet ρ i = true) (e : ρ.set i (some (d, .own)) = ρ1) (k : N ρ1) : sto i (.tmp d) ρ N := by with_unfolding_all exact TNO.sto_tmp h e k
theorem sto_own {N : Rho → Prop} (hj : ρ[j]? = some (some (d, .own))) (e : ρ.set j (some (d, .fz)) = ρ1) (h : canSet ρ1 i = true) (e2 : ρ1.set i (some (d, .fz)) = ρ2) (k : N ρ2) : sto i (.slot j) ρ N := by with_unfolding_all exact TNO.sto_own hj e h e2 k
theorem sto_lent {N : Rho → Prop} (hj : ρ[j]? = some (some (d, .lent))) (e : ρ.set j (some (d, .lz)) = ρ1) (h : canSet ρ1 i = true) (e2 : ρ1.set i (some (d, .fz)) = ρ2) (k : N ρ2) : sto i (.slot j) ρ N := by with_unfolding_all exact TNO.sto_lent hj e h e2 k
theorem rt_val {T : D → Bool → Rho → Prop} (h : T d false ρ) : rt (.val d) ρ T := by with_unfolding_all exact TNO.rt_val h
theorem rt_tmp {T : D → Bool → Rho → Prop} (h : T d true ρ) : rt (.tmp d) ρ T := by with_unfolding_all exact TNO.rt_tmp h
theorem rt_own {T : D → Bool → Rho → Prop} (h : ρ[i]? = some (some (d, .own))) (e : ρ.set i none = ρ1) (k : T d true ρ1) : rt (.slot i) ρ T := by with_unfolding_all exact TNO.rt_own h e k
theorem rt_lent {T : D → Bool → Rho → Prop} (h : ρ[i]? = some (some (d, .lent))) (e : ρ.set i (some (d, .lz)) = ρ1) (k : T d false ρ1) : rt (.slot i) ρ T := by with_unfolding_all exact TNO.rt_lent h e k
theorem wipe_nil : wipeR ρ [] = ρ := by with_unfolding_all exact TNO.wipe_nil
theorem wipe_cons {v : Nat} {vs : List Nat} (h : wipeR ρ vs = ρ1) (h2 : ρ1.set v none = ρ2) : wipeR ρ (v :: vs) = ρ2 := by with_unfolding_all exact TNO.wipe_cons h h2
theorem wpd_i {vs : List Nat} {N : Rho → Prop} (h : wipeOk ρ vs = true) (e : wipeR ρ vs = ρ1) (k : N ρ1) : wpd vs ρ N := by with_unfolding_all exact TNO.wpd_i h e k
abbrev okW (s : Slot) : Prop := TNO.okW s
theorem okW_none : okW none := by with_unfolding_all exact TNO.okW_none
theorem okW_fz : okW (some (d, .fz)) := by with_unfolding_all exact TNO.okW_fz
theorem okW_jk {k : Option D} : okW (jk k) := by with_unfolding_all exact TNO.okW_jk
theorem okW_S {s : Slot} (h : okW s) : okS s := by with_unfolding_all exact TNO.okW_S h
theorem wOk_nil : wipeOk ρ [] = true := by with_unfolding_all exact TNO.wOk_nil
theorem wOk_cons {v : Nat} {vs : List Nat} {s : Slot} (h : ρ[v]? = some s) (hs : okW s) (k : wipeOk ρ vs = true) : wipeOk ρ (v :: vs) = true := by with_unfolding_all exact TNO.wOk_cons h hs k
@[irreducible] def setB (ρ0 ρ : Rho) (vs : List Nat) (N : Rho → Prop) : Prop := TNO.setB ρ0 ρ vs N
theorem back_nil {ρ0 : Rho} : backR ρ0 ρ [] = ρ := by with_unfolding_all exact TNO.back_nil
theorem back_cons {ρ0 : Rho} {v : Nat} {vs : List Nat} {s : Slot} (h : ρ0[v]? = some s) (h1 : backR ρ0 ρ vs = ρ1) (h2 : ρ1.set v s = ρ2) : backR ρ0 ρ (v :: vs) = ρ2 := by with_unfolding_all exact TNO.back_cons h h1 h2
theorem setB_i {ρ0 : Rho} {vs : List Nat} {N : Rho → Prop} (e : backR ρ0 ρ vs = ρ1) (k : N ρ1) : setB ρ0 ρ vs N := by with_unfolding_all exact TNO.setB_i e k
/-! expressions -/
section
variable {Q : Pl → Rho → Prop} {a b c : CE} {ca : CA}
theorem w_lit (h : Q (.val d) ρ) : gE (cLit d ρ) Q E := by with_unfolding_all exact TNO.w_lit h
theorem w_newK (h : Q (.tmp (.dict [])) ρ) : gE (cNewK ρ) Q E := by with_unfolding_all exact TNO.w_newK h
theorem w_newT (h : Q (.tmp (.dict [(.none, .none)])) ρ) : gE (cNewT ρ) Q E := by with_unfolding_all exact TNO.w_newT h
theorem w_fz (h : ρ[i]? = some (some (d, .fz))) (k : Q (.val d) ρ) : gE (cVar i ρ) Q E := by with_unfolding_all exact TNO.w_fz h k
theorem w_lz (h : ρ[i]? = some (some (d, .lz))) (k : Q (.val d) ρ) : gE (cVar i ρ) Q E := by with_unfolding_all exact TNO.w_lz h k
theorem w_own (h : ρ[i]? = some (some (d, .own))) (k : Q (.slot i) ρ) : gE (cVar i ρ) Q E := by with_unfolding_all exact TNO.w_own h k
theorem w_lent (h : ρ[i]? = some (some (d, .lent))) (k : Q (.slot i) ρ) : gE (cVar i ρ) Q E := by with_unfolding_all exact TNO.w_lent h k
theorem w_any {md : Md} (h : ρ[i]? = some (some (d, md))) (hm : md = .fz ∨ md = .lent) (k : ∀ p : Pl, (∀ ρ' : Rho, ρ'[i]? = some (some (d, md)) → look p ρ' = some d) → Q p ρ) : gE (cVar i ρ) Q E := by with_unfolding_all exact TNO.w_any h hm k
theorem w_any2 {md : Md} (h : ρ[i]? = some (some (d, md))) (hm : md = .own ∨ md = .fz) (k : ∀ p : Pl, (∀ ρ' : Rho, ρ'[i]? = some (some (d, md)) → look p ρ' = some d) → Q p ρ) : gE (cVar i ρ) Q E := by with_unfolding_all exact TNO.w_any2 h hm k
theorem lk_any {md : Md} {p : Pl} {Q : D → Prop} (hp : ∀ ρ' : Rho, ρ'[i]? = some (some (d, md)) → look p ρ' = some d) (h : ρ[i]? = some (some (d, md))) (k : Q d) : lk p ρ Q := by with_unfolding_all exact TNO.lk_any hp h k
theorem gE_op {o : Option Pl} (h : gO o fun r => Q r ρ) : gE (R.ofOpt o ρ) Q E := by with_unfolding_all exact TNO.gE_op h
theorem w_bin {f : D → D → Option Pl} (h : gE (a ρ) (fun p ρ1 => gE (b ρ1) (fun q ρ2 => lk p ρ2 fun x => lk q ρ2 fun y => gO (f x y) fun r => Q r ρ2) E) E) : gE (cBin f a b ρ) Q E := by with_unfolding_all exact TNO.w_bin h
theorem w_un {f : D → Option Pl} (h : gE (a ρ) (fun p ρ1 => lk p ρ1 fun x => gO (f x) fun r => Q r ρ1) E) : gE (cUn f a ρ) Q E := by with_unfolding_all exact TNO.w_un h
theorem w_fn {f : List D → Option Pl} (h : gE (ca ρ) (fun ps ρ1 => lkA ps ρ1 fun x => gO (f x) fun r => Q r ρ1) E) : gE (cFn f ca ρ) Q E := by with_unfolding_all exact TNO.w_fn h
theorem w_nil {Q : List Pl → Rho → Prop} (h : Q [] ρ) : gE (cNil ρ) Q E := by with_unfolding_all exact TNO.w_nil h
theorem w_cons {Q : List Pl → Rho → Prop} (h : gE (a ρ) (fun p ρ1 => gE (ca ρ1) (fun ps ρ2 => Q (p :: ps) ρ2) E) E) : gE (cCons a ca ρ) Q E := by with_unfolding_all exact TNO.w_cons h
theorem w_tst {Q : Bool → Rho → Prop} (h : gE (c ρ) (fun p ρ1 => lk p ρ1 fun d => isB d fun b => Q b ρ1) E) : gE (cTst c ρ) Q E := by with_unfolding_all exact TNO.w_tst h
theorem w_true {Q : Bool → Rho → Prop} (h : Q true ρ) : gE (tTrue ρ) Q E := by with_unfolding_all exact TNO.w_true h
theorem w_and {Q : Bool → Rho → Prop} {a b : CB} (h : gE (a ρ) (fun c ρ1 => br c (gE (b ρ1) Q E) (Q false ρ1)) E) : gE (cAnd a b ρ) Q E := by with_unfolding_all exact TNO.w_and h
theorem w_or {Q : Bool → Rho → Prop} {a b : CB} (h : gE (a ρ) (fun c ρ1 => br c (Q true ρ1) (gE (b ρ1) Q E)) E) : gE (cOr a b ρ) Q E := by with_unfolding_all exact TNO.w_or h
theorem w_not {Q : Bool → Rho → Prop} {a : CB} (h : gE (a ρ) (fun c ρ1 => Q (!c) ρ1) E) : gE (cNot a ρ) Q E := by with_unfolding_all exact TNO.w_not h
theorem w_andV (h : gE (a ρ) (fun p ρ1 => lk p ρ1 fun d => isB d fun k => br k (gE (b ρ1) Q E) (Q (.val (.bool false)) ρ1)) E) : gE (cAndV a b ρ) Q E := by with_unfolding_all exact TNO.w_andV h
theorem w_orV (h : gE (a ρ) (fun p ρ1 => lk p ρ1 fun d => isB d fun k => br k (Q (.val (.bool true)) ρ1) (gE (b ρ1) Q E)) E) : gE (cOrV a b ρ) Q E := by with_unfolding_all exact TNO.w_orV h
theorem w_notV (h : gE (a ρ) (fun p ρ1 => lk p ρ1 fun d => isB d fun k => Q (.val (.bool (!k))) ρ1) E) : gE (cNotV a ρ) Q E := by with_unfolding_all exact TNO.w_notV h
theorem w_ite {t : CB} (h : gE (t ρ) (fun k ρ1 => br k (gE (a ρ1) Q E) (gE (b ρ1) Q E)) E) : gE (cIte t a b ρ) Q E := by with_unfolding_all exact TNO.w_ite h
theorem w_tup (h : gE (ca ρ) (fun ps ρ1 => fzA ps ρ1 fun ds ρ2 => lenW ds (Q (.val (.tuple ds)) ρ2)) E) : gE (cTup ca ρ) Q E := by with_unfolding_all exact TNO.w_tup h
theorem w_lst (h : gE (ca ρ) (fun ps ρ1 => fzA ps ρ1 fun ds ρ2 => lenW ds (Q (.tmp (.list ds)) ρ2)) E) : gE (cLst ca ρ) Q E := by with_unfolding_all exact TNO.w_lst h
theorem w_call {M : FM} (h : gE (ca ρ) (fun ps ρ1 => gE (callM M ps ρ1) Q E) E) : gE (cCall M ca ρ) Q E := by with_unfolding_all exact TNO.w_call h
theorem w_chI {f : Int → Int → Bool} {g : D → D → Option Pl} (h : gE (a ρ) (fun p ρ1 => gE (b ρ1) (fun q ρ2 => lk p ρ2 fun x => lk q ρ2 fun y => gO (opLtG f x y) fun r => lk r ρ2 fun d => isB d fun k => br k (gE (c ρ2) (fun r ρ3 => lk q ρ3 fun y => lk r ρ3 fun z => gO (g y z) fun s => Q s ρ3) E) (Q (.val (.bool false)) ρ2)) E) E) : gE (cChain (opLtG f) g a b c ρ) Q E := by with_unfolding_all exact TNO.w_chI h
theorem w_chE {g : D → D → Option Pl} (h : gE (a ρ) (fun p ρ1 => gE (b ρ1) (fun q ρ2 => lk p ρ2 fun x => lk q ρ2 fun y => gO (opEq x y) fun r => lk r ρ2 fun d => isB d fun k => br k (gE (c ρ2) (fun r ρ3 => lk q ρ3 fun y => lk r ρ3 fun z => gO (g y z) fun s => Q s ρ3) E) (Q (.val (.bool false)) ρ2)) E) E) : gE (cChain opEq g a b c ρ) Q E := by with_unfolding_all exact TNO.w_chE h
theorem w_ch3 {e f : Int → Int → Bool} {g : D → D → Option Pl} {d : CE} (h : gE (a ρ) (fun p ρ1 => gE (b ρ1) (fun q ρ2 => lk p ρ2 fun x => lk q ρ2 fun y => gO (opLtG e x y) fun r => lk r ρ2 fun k0 => isB k0 fun k => br k
    (gE (c ρ2) (fun r ρ3 => lk q ρ3 fun y => lk r ρ3 fun z => gO (opLtG f y z) fun s => lk s ρ3 fun k1 => isB k1 fun k' => br k' (gE (d ρ3) (fun s ρ4 => lk r ρ4 fun z => lk s ρ4 fun w => gO (g z w) fun u => Q u ρ4) E) (Q (.val (.bool false)) ρ3)) E) (Q (.val (.bool false)) ρ2)) E) E) : gE (cChain3 (opLtG e) (opLtG f) g a b c d ρ) Q E := by with_unfolding_all exact TNO.w_ch3 h
theorem w_sl {lo hi : CO} (h : gE (a ρ) (fun p ρ1 => gE (lo ρ1) (fun l ρ2 => gE (hi ρ2) (fun u ρ3 => lk p ρ3 fun x => gO (opSl x l u) fun r => Q r ρ3) E) E) E) : gE (cSl a lo hi ρ) Q E := by with_unfolding_all exact TNO.w_sl h
theorem w_noPart {Q : Option Int → Rho → Prop} (h : Q none ρ) : gE (cNoPart ρ) Q E := by with_unfolding_all exact TNO.w_noPart h
theorem w_part {Q : Option Int → Rho → Prop} (h : gE (c ρ) (fun p ρ1 => lk p ρ1 fun d => isI d fun n => Q (some n) ρ1) E) : gE (cPart c ρ) Q E := by with_unfolding_all exact TNO.w_part h
theorem w_mt {T : String} {f : D → List D → Option Pl} (h : gE (a ρ) (fun p ρ1 => lk p ρ1 fun d0 => tyOk T d0 = true ∧ gE (ca ρ1) (fun ps ρ2 => lk p ρ2 fun d => lkA ps ρ2 fun ds => gO (f d ds) fun r => Q r ρ2) E) E) : gE (cMt T f a ca ρ) Q E := by with_unfolding_all exact TNO.w_mt h
theorem w_mutL {xs : List D} {m0 : Md} {f : D → List D → Option (D × D)} (h0 : ownAt i ρ = some (.list xs, m0)) (h : gE (ca ρ) (fun ps ρ1 => fzA ps ρ1 fun ds ρ2 => ownW i ρ2 fun d m => gP (f d ds) fun d' y => setW ρ2 i (some (d', m)) fun ρ3 => Q (.val y) ρ3) E) : gE (cMutL i f ca ρ) Q E := by with_unfolding_all exact TNO.w_mutL h0 h
theorem prW_i {n m : Int} {F : Int → Int → Prop} (h : F n m) : prW (n, m) F := by with_unfolding_all exact TNO.prW_i h
theorem w_lstRg {r : Rho → R (Int × Int)} (h : gE (r ρ) (fun ab ρ1 => prW ab fun n m => rgOk n m = true ∧ Q (.tmp (.list ((rgI n m).map .int))) ρ1) E) : gE (cLstRg r ρ) Q E := by with_unfolding_all exact TNO.w_lstRg h
theorem w_tupRg {r : Rho → R (Int × Int)} (h : gE (r ρ) (fun ab ρ1 => prW ab fun n m => rgOk n m = true ∧ Q (.val (.tuple ((rgI n m).map .int))) ρ1) E) : gE (cTupRg r ρ) Q E := by with_unfolding_all exact TNO.w_tupRg h
theorem w_rg1 {Q : Int × Int → Rho → Prop} (h : gE (a ρ) (fun p ρ1 => lk p ρ1 fun d => isI d fun n => Q (0, n) ρ1) E) : gE (cRg1 a ρ) Q E := by with_unfolding_all exact TNO.w_rg1 h
theorem w_rg2 {Q : Int × Int → Rho → Prop} (h : gE (a ρ) (fun p ρ1 => gE (b ρ1) (fun q ρ2 => lk p ρ2 fun d => isI d fun n => lk q ρ2 fun e => isI e fun m => Q (n, m) ρ2) E) E) : gE (cRg2 a b ρ) Q E := by with_unfolding_all exact TNO.w_rg2 h
theorem rg_i {n m : Int} {Q : Prop} (h : 0 ≤ n ∧ n ≤ 1000000 ∧ 0 ≤ m ∧ m ≤ 1000000) (k : Q) : rgOk n m = true ∧ Q := by with_unfolding_all exact TNO.rg_i h k
theorem w_comp {ci : CI} {g : D → Rho → Option Rho} {t : CB} {e : CE} {vs : List Nat} (h : gE (ci ρ) (fun ds ρ1 => cpW ds g t e vs ρ1 Q) E) : gE (cComp ci g t e vs ρ) Q E := by with_unfolding_all exact TNO.w_comp h
end
/-! what is walked -/
section
variable {Q : List D → Rho → Prop} {a b c : CE}
theorem w_it (h : gE (c ρ) (fun p ρ1 => fz1 p ρ1 fun d ρ2 => gO (seqD d) fun ds => Q ds ρ2) E) : gE (cIt c ρ) Q E := by with_unfolding_all exact TNO.w_it h
theorem w_enum (h : gE (c ρ) (fun p ρ1 => fz1 p ρ1 fun d ρ2 => gO (seqOf d) fun ds => Q (enumD ds) ρ2) E) : gE (cEnum c ρ) Q E := by with_unfolding_all exact TNO.w_enum h
theorem w_rev (h : gE (c ρ) (fun p ρ1 => fz1 p ρ1 fun d ρ2 => gO (seqOf d) fun ds => Q ds.reverse ρ2) E) : gE (cRev c ρ) Q E := by with_unfolding_all exact TNO.w_rev h
theorem w_zip (h : gE (a ρ) (fun p ρ1 => gE (b ρ1) (fun q ρ2 => fz1 p ρ2 fun d ρ3 => fz1 q ρ3 fun e ρ4 => gO (match d, e with | .list a, .list b => some (zipD a b) | .tuple a, .tuple b => some (zipD a b) | _, _ => none) fun ds => Q ds ρ4) E) E) : gE (cZip a b ρ) Q E := by with_unfolding_all exact TNO.w_zip h
theorem w_r1 (h : gE (a ρ) (fun p ρ1 => lk p ρ1 fun d => isI d fun n => rgFit n = true ∧ Q (rgD 0 n) ρ1) E) : gE (cRng1 a ρ) Q E := by with_unfolding_all exact TNO.w_r1 h
theorem w_r2 (h : gE (a ρ) (fun p ρ1 => gE (b ρ1) (fun q ρ2 => lk p ρ2 fun d => isI d fun n => lk q ρ2 fun e => isI e fun m => rgFit n = true ∧ rgFit m = true ∧ Q (rgD n m) ρ2) E) E) : gE (cRng2 a b ρ) Q E := by with_unfolding_all exact TNO.w_r2 h
theorem w_r3 (h : gE (a ρ) (fun p ρ1 => gE (b ρ1) (fun q ρ2 => gE (c ρ2) (fun r ρ3 => lk p ρ3 fun d => isI d fun n => lk q ρ3 fun e => isI e fun m => lk r ρ3 fun f => isI f fun k => k = -1 ∧ rgFit n = true ∧ rgFit m = true ∧ Q (rgDown n m) ρ3) E) E) E) : gE (cRng3 a b c ρ) Q E := by with_unfolding_all exact TNO.w_r3 h
theorem rf_i {n : Int} {Q : Prop} (h : -1000000 ≤ n ∧ n ≤ 1000000) (k : Q) : rgFit n = true ∧ Q := by with_unfolding_all exact TNO.rf_i h k
end
/-! statements -/
section
variable {N : Rho → Prop} {T : D → Bool → Rho → Prop} {a b : CS} {c : CE} {t : CB} {g : D → Rho → Option Rho}
theorem s_seq (h : gS (a ρ) (fun ρ1 => gS (b ρ1) N T E) T E) : gS (cSeq a b ρ) N T E := by with_unfolding_all exact TNO.s_seq h
theorem s_skip (h : N ρ) : gS (cSkip ρ) N T E := by with_unfolding_all exact TNO.s_skip h
theorem s_ret (h : gE (c ρ) (fun p ρ1 => rt p ρ1 T) E) : gS (cRet c ρ) N T E := by with_unfolding_all exact TNO.s_ret h
theorem s_retN (h : T .none false ρ) : gS (cRetN ρ) N T E := by with_unfolding_all exact TNO.s_retN h
theorem s_if (h : gE (t ρ) (fun k ρ1 => br k (gS (a ρ1) N T E) (gS (b ρ1) N T E)) E) : gS (cIf t a b ρ) N T E := by with_unfolding_all exact TNO.s_if h
theorem s_set (h : gE (c ρ) (fun p ρ1 => sto i p ρ1 N) E) : gS (cSet i c ρ) N T E := by with_unfolding_all exact TNO.s_set h
theorem s_drop (h : gE (c ρ) (fun _ ρ1 => N ρ1) E) : gS (cDrop c ρ) N T E := by with_unfolding_all exact TNO.s_drop h
theorem s_raise {x : Str} (h : E ⟨x, []⟩ ρ) : gS (cRaise x ρ) N T E := by with_unfolding_all exact TNO.s_raise h
theorem s_raiseA {x : Str} {fs : List Str} {ca : CA} (h : gE (ca ρ) (fun ps ρ1 => fzA ps ρ1 fun ds ρ2 => E ⟨x, putF fs ds []⟩ ρ2) E) : gS (cRaiseA x fs ca ρ) N T E := by with_unfolding_all exact TNO.s_raiseA h
@[irreducible] def tryW (cs : List Str) (i : Nat) (ch : CS) (x : Xc) (ρ : Rho) (N : Rho → Prop) (T : D → Bool → Rho → Prop) : Prop := TNO.tryW cs i ch x ρ N T
theorem s_try {cs : List Str} (h : gS (a ρ) N T (fun x ρ1 => tryW cs i b x ρ1 N T)) : gS (cTry cs i a b ρ) N T E := by with_unfolding_all exact TNO.s_try h
theorem tryW_i {cs : List Str} {x : Str} {fl : List (Str × D)} (h1 : cs.contains x = true) (h2 : canSet ρ i = true) (e : ρ.set i (some (exD x fl, .fz)) = ρ1) (h : gS (b ρ1) (fun ρ2 => canSet ρ2 i = true ∧ setW ρ2 i none N) T (fun _ _ => False)) : tryW cs i b ⟨x, fl⟩ ρ N T := by with_unfolding_all exact TNO.tryW_i h1 h2 e h
theorem s_for {ci : CI} (h : gE (ci ρ) (fun ds ρ1 => gS (forL g b ds ρ1) N T E) E) : gS (cFor ci g b ρ) N T E := by with_unfolding_all exact TNO.s_for h
theorem s_unp (h : gE (c ρ) (fun p ρ1 => fz1 p ρ1 fun d ρ2 => gO (g d ρ2) N) E) : gS (cUnp g c ρ) N T E := by with_unfolding_all exact TNO.s_unp h
theorem s_aug {f : Int → Int → Int} (h : lk (.slot i) ρ fun d => isI d fun n => gE (c ρ) (fun p ρ1 => lk p ρ1 fun e => isI e fun m => sto i (.val (.int (f n m))) ρ1 N) E) : gS (cAugI i f c ρ) N T E := by with_unfolding_all exact TNO.s_aug h
theorem s_par {c2 : CE} (h : gE (c ρ) (fun p ρ1 => gE (c2 ρ1) (fun q ρ2 => fz1 p ρ2 fun d ρ3 => fz1 q ρ3 fun e ρ4 => sto i (.val d) ρ4 fun ρ5 => sto j (.val e) ρ5 N) E) E) : gS (cPar i j c c2 ρ) N T E := by with_unfolding_all exact TNO.s_par h
@[irreducible] def lsD (d : D) (Q : List D → Prop) : Prop := TNO.lsD d Q
theorem lsD_l {a : List D} {Q : List D → Prop} (h : Q a) : lsD (.list a) Q := by with_unfolding_all exact TNO.lsD_l h
theorem at_rfl {a : List D} {k : Int} {e : D} {Q : D → Prop} (h : atI a k = some e) (q : Q e) : gO (atI a k) Q := by with_unfolding_all exact TNO.at_rfl h q
theorem putL_rfl {c k d c' : D} {Q : D → Prop} (h : putL c k d = some c') (q : Q c') : gO (putL c k d) Q := by with_unfolding_all exact TNO.putL_rfl h q
theorem s_augS {f : D → D → D → Option D} {g0 : Int → Int → Int} {ck ce : CE} (h : ownW i ρ fun _ _ => gE (ck ρ) (fun p ρ1 => lk p ρ1 fun d => isI d fun k => ownW i ρ1 fun c _ => lsD c fun a => gO (atI a k) fun e => isI e fun n =>
    gE (ce ρ1) (fun q ρ2 => lk q ρ2 fun e2 => isI e2 fun b => ownW i ρ2 fun c2 m2 => gO (f c2 (.int k) (.int (g0 n b))) fun c' => setW ρ2 i (some (c', m2)) N) E) E) : gS (cAugS i f g0 ck ce ρ) N T E := by with_unfolding_all exact TNO.s_augS h
/-- a walk, by what holds behind each prefix -/
theorem for_inv {α : Type} (xs : List α) (f : α → D) (I : List α → Rho → Prop) {ds : List D} (hds : ds = xs.map f) (h0 : I [] ρ) (hs : ∀ pre x post ρ, xs = pre ++ x :: post → I pre ρ → gO (g (f x) ρ) fun ρ1 => gS (b ρ1) (I (pre ++ [x])) T E) (hN : ∀ ρ, I xs ρ → N ρ) : gS (forL g b ds ρ) N T E := by with_unfolding_all exact TNO.for_inv xs f I hds h0 hs hN
end
/-! targets -/
section
variable {N : Rho → Prop}
theorem t_nm (h : sto i (.val d) ρ N) : gO (gNm i d ρ) N := by with_unfolding_all exact TNO.t_nm h
theorem t_tp {n : Nat} {g : List D → Rho → Option Rho} (hl : ds.length = n) (h : gO (g ds ρ) N) : gO (gTp n g (.tuple ds) ρ) N := by with_unfolding_all exact TNO.t_tp hl h
theorem t_tie {t : Nat × Nat} {g : List D → Rho → Option Rho} (h : gO (g [.int (t.1 : Nat), .int (t.2 : Nat)] ρ) N) : gO (gTp 2 g (tieD t) ρ) N := by with_unfolding_all exact TNO.t_tie h
theorem t_nil (h : N ρ) : gO (gsNil [] ρ) N := by with_unfolding_all exact TNO.t_nil h
theorem t_cons {g : D → Rho → Option Rho} {r : List D → Rho → Option Rho} (h : gO (g d ρ) fun ρ1 => gO (r ds ρ1) N) : gO (gsCons g r (d :: ds) ρ) N := by with_unfolding_all exact TNO.t_cons h
theorem t_put {f : D → D → D → Option D} {ck : CE} (h : ownW i ρ fun _ _ => gE (ck ρ) (fun p ρ1 => fz1 p ρ1 fun k ρ2 => ownW i ρ2 fun c m => gO (f c k d) fun c' => setW ρ2 i (some (c', m)) N) (fun _ _ => False)) : gO (gPut i f ck d ρ) N := by with_unfolding_all exact TNO.t_put h
end
/-! comprehensions -/
section
variable {Q : Pl → Rho → Prop} {g : D → Rho → Option Rho} {t : CB} {e : CE} {vs : List Nat}
theorem elW_i {x : D} {P : Option D → Rho → Prop} (h : gO (g x ρ) fun ρ1 => gE (t ρ1) (fun b ρ2 => br b (gE (e ρ2) (fun p ρ3 => fz1 p ρ3 fun d ρ4 => wpd vs ρ4 (P (some d))) (fun _ _ => False)) (wpd vs ρ2 (P none))) (fun _ _ => False)) : elW g t e vs ρ x P := by with_unfolding_all exact TNO.elW_i h
theorem cp_map {α : Type} (xs : List α) (f out : α → D) {ds : List D} (hds : ds = xs.map f) (hl : xs.length ≤ 1000000) (hw : wipeOk ρ vs = true) (ew : wipeR ρ vs = ρ1)
    (hs : ∀ x ∈ xs, elW g t e vs ρ1 (f x) fun o ρ' => o = some (out x) ∧ ρ' = ρ1) (k : Q (.tmp (.list (xs.map out))) ρ) : cpW ds g t e vs ρ Q := by with_unfolding_all exact TNO.cp_map xs f out hds hl hw ew hs k
end
/-! calls -/
section
variable {Q : Pl → Rho → Prop} {M : FM} {ps : List Pl} {as : List (D × Md)} {outs : List Slot} {x : Xc}
theorem c_rv (h : ps.all noSlot = true) (ha : argsOf ps ρ = some as) (hM : (M as).rv = some (d, false)) (k : Q (.val d) ρ) : gE (callM M ps ρ) Q E := by with_unfolding_all exact TNO.c_rv h ha hM k
theorem c_rvT (h : ps.all noSlot = true) (ha : argsOf ps ρ = some as) (hM : (M as).rv = some (d, true)) (k : Q (.tmp d) ρ) : gE (callM M ps ρ) Q E := by with_unfolding_all exact TNO.c_rvT h ha hM k
theorem c_gen (ha : argsOf ps ρ = some as) (nd : noDup ps = true) (hM : M as = .ok d false outs) (hg : gb ps outs 0 ρ = ρ1) (k : Q (.val d) ρ1) : gE (callM M ps ρ) Q E := by with_unfolding_all exact TNO.c_gen ha nd hM hg k
theorem c_genT (ha : argsOf ps ρ = some as) (nd : noDup ps = true) (hM : M as = .ok d true outs) (hg : gb ps outs 0 ρ = ρ1) (k : Q (.tmp d) ρ1) : gE (callM M ps ρ) Q E := by with_unfolding_all exact TNO.c_genT ha nd hM hg k
theorem c_draw {p : Pen} {m : Int} {md : Md} (hi : ρ[i]? = some (some (p.d, md))) (hm : md = .own ∨ md = .lent) (h0 : 0 < m ∧ m < 10000000000000000000000000000000000000000000000000000000000000000000000) (k : ∀ (v : Int) (p' : Pen), 0 ≤ v ∧ v < m → setW ρ i (some (p'.d, md)) fun ρ' => Q (.val (.int v)) ρ') : gE (callM MMDraw [.slot i, .val (.int m)] ρ) Q E := by with_unfolding_all exact TNO.c_draw hi hm h0 k
end
section
theorem c_pen {Q : Pl → Rho → Prop} {c : Int} (k : ∀ p : Pen, Q (.tmp p.d) ρ) : gE (callM MMPen [.val (.int c)] ρ) Q E := by with_unfolding_all exact TNO.c_pen k
end
/-! defs -/
section
variable {n m : Nat} {c : CS} {as : List (D × Md)} {fr : Bool} {r : FR} {o : List Slot} {x : Xc}
theorem gF_mk {T : D → Bool → List Slot → Prop} {E : Xc → List Slot → Prop} (hl : as.length = n) (h : gS (c (as.map some ++ List.replicate (m - n) none)) (fun ρ => T .none false (ρ.take n)) (fun d fr ρ => T d fr (ρ.take n)) (fun x ρ => E x (ρ.take n))) : gF (mkF n m c as) T E := by with_unfolding_all exact TNO.gF_mk hl h
theorem rv_gF (h : gF r (fun d' fr' _ => d' = d ∧ fr' = fr) (fun _ _ => False)) : r.rv = some (d, fr) := by with_unfolding_all exact TNO.rv_gF h
theorem ok_gF (h : gF r (fun d' fr' o' => d' = d ∧ fr' = fr ∧ o' = o) (fun _ _ => False)) : r = .ok d fr o := by with_unfolding_all exact TNO.ok_gF h
theorem ex_gF {T : D → Bool → List Slot → Prop} (h : gF r T (fun _ _ => False)) : ∃ d fr o, r = .ok d fr o ∧ T d fr o := by with_unfolding_all exact TNO.ex_gF h
end
end
/-! what operators give, asked for from the end -/
section
variable {Q : Pl → Prop} {i j : Int} {a b : List D} {P : D → D → Prop} {x : D}
theorem ty_i {T : String} {d : D} {A : Prop} (h : tyOk T d = true) (k : A) : tyOk T d = true ∧ A := by with_unfolding_all exact TNO.ty_i h k
theorem o_add (h : Q (.val (.int (i + j)))) : gO (opAdd (.int i) (.int j)) Q := by with_unfolding_all exact TNO.o_add h
theorem o_sub (h : Q (.val (.int (i - j)))) : gO (opSub (.int i) (.int j)) Q := by with_unfolding_all exact TNO.o_sub h
theorem o_neg (h : Q (.val (.int (-i)))) : gO (opNeg (.int i)) Q := by with_unfolding_all exact TNO.o_neg h
theorem o_mul (hb : (-1000000000 < i ∧ i < 1000000000) ∨ (-1000000000 < j ∧ j < 1000000000)) (h : Q (.val (.int (i * j)))) : gO (opMul (.int i) (.int j)) Q := by with_unfolding_all exact TNO.o_mul hb h
theorem o_mod (hb : 0 < j) (h : Q (.val (.int (i % j)))) : gO (opMod (.int i) (.int j)) Q := by with_unfolding_all exact TNO.o_mod hb h
theorem o_div (hb : 0 < j ∧ j < 1000000000) (h : Q (.val (.int (i / j)))) : gO (opDiv (.int i) (.int j)) Q := by with_unfolding_all exact TNO.o_div hb h
theorem o_ltG {f : Int → Int → Bool} (h : Q (.val (.bool (f i j)))) : gO (opLtG f (.int i) (.int j)) Q := by with_unfolding_all exact TNO.o_ltG h
theorem o_eqI (h : Q (.val (.bool (decide (i = j))))) : gO (opEq (.int i) (.int j)) Q := by with_unfolding_all exact TNO.o_eqI h
theorem o_neI (h : Q (.val (.bool (!decide (i = j))))) : gO (opNe (.int i) (.int j)) Q := by with_unfolding_all exact TNO.o_neI h
theorem o_eqB {a b : Bool} (h : Q (.val (.bool (a == b)))) : gO (opEq (.bool a) (.bool b)) Q := by with_unfolding_all exact TNO.o_eqB h
theorem o_neB {a b : Bool} (h : Q (.val (.bool (!(a == b))))) : gO (opNe (.bool a) (.bool b)) Q := by with_unfolding_all exact TNO.o_neB h
theorem o_eqL {a b : List Int} (h : Q (.val (.bool (decide (a = b))))) : gO (opEq (.list (a.map .int)) (.list (b.map .int))) Q := by with_unfolding_all exact TNO.o_eqL h
theorem o_neL {a b : List Int} (h : Q (.val (.bool (!decide (a = b))))) : gO (opNe (.list (a.map .int)) (.list (b.map .int))) Q := by with_unfolding_all exact TNO.o_neL h
theorem o_eqT {a b : List Int} (h : Q (.val (.bool (decide (a = b))))) : gO (opEq (.tuple (a.map .int)) (.tuple (b.map .int))) Q := by with_unfolding_all exact TNO.o_eqT h
theorem o_neT {a b : List Int} (h : Q (.val (.bool (!decide (a = b))))) : gO (opNe (.tuple (a.map .int)) (.tuple (b.map .int))) Q := by with_unfolding_all exact TNO.o_neT h
theorem o_isN (h : Q (.val (.bool (isNonD x)))) : gO (opIsN x .none) Q := by with_unfolding_all exact TNO.o_isN h
theorem o_notN (h : Q (.val (.bool (!isNonD x)))) : gO (opNotN x .none) Q := by with_unfolding_all exact TNO.o_notN h
theorem o_tup (h : Q (.val (.bool (isTupD x)))) : gO (opIsi "tuple" x) Q := by with_unfolding_all exact TNO.o_tup h
theorem o_lst (h : Q (.val (.bool (isLstD x)))) : gO (opIsi "list" x) Q := by with_unfolding_all exact TNO.o_lst h
theorem o_bool (h : Q (.val (.bool (isBoolD x)))) : gO (opIsi "bool" x) Q := by with_unfolding_all exact TNO.o_bool h
theorem o_lenM {α : Type} {xs : List α} {f : α → D} (h : Q (.val (.int (xs.length : Nat)))) : gO (fLen [.list (xs.map f)]) Q := by with_unfolding_all exact TNO.o_lenM h
theorem o_lenMt {α : Type} {xs : List α} {f : α → D} (h : Q (.val (.int (xs.length : Nat)))) : gO (fLen [.tuple (xs.map f)]) Q := by with_unfolding_all exact TNO.o_lenMt h
theorem o_lenL (h : Q (.val (.int (a.length : Nat)))) : gO (fLen [.list a]) Q := by with_unfolding_all exact TNO.o_lenL h
theorem o_lenT (h : Q (.val (.int (a.length : Nat)))) : gO (fLen [.tuple a]) Q := by with_unfolding_all exact TNO.o_lenT h
theorem o_intI (h : Q (.val (.int i))) : gO (fInt [.int i]) Q := by with_unfolding_all exact TNO.o_intI h
theorem o_intB {b : Bool} (h : Q (.val (.int (if b = true then 1 else 0)))) : gO (fInt [.bool b]) Q := by with_unfolding_all exact TNO.o_intB h
theorem o_abs (h : Q (.val (.int (absI i)))) : gO (fAbs [.int i]) Q := by with_unfolding_all exact TNO.o_abs h
theorem o_max2 (h : Q (.val (.int (max i j)))) : gO (fMax2 [.int i, .int j]) Q := by with_unfolding_all exact TNO.o_max2 h
theorem o_min2 (h : Q (.val (.int (min i j)))) : gO (fMin2 [.int i, .int j]) Q := by with_unfolding_all exact TNO.o_min2 h
theorem o_tupL (h : Q (.val (.tuple a))) : gO (fTuple [.list a]) Q := by with_unfolding_all exact TNO.o_tupL h
theorem o_tupT (h : Q (.val (.tuple a))) : gO (fTuple [.tuple a]) Q := by with_unfolding_all exact TNO.o_tupT h
theorem o_lstL (h : Q (.tmp (.list a))) : gO (fListA [.list a]) Q := by with_unfolding_all exact TNO.o_lstL h
theorem o_lstT (h : Q (.tmp (.list a))) : gO (fListA [.tuple a]) Q := by with_unfolding_all exact TNO.o_lstT h
theorem o_sumL {ns : List Int} (h : Q (.val (.int ns.sum))) : gO (fSum [.list (ns.map .int)]) Q := by with_unfolding_all exact TNO.o_sumL h
theorem o_sumT {ns : List Int} (h : Q (.val (.int ns.sum))) : gO (fSum [.tuple (ns.map .int)]) Q := by with_unfolding_all exact TNO.o_sumT h
theorem o_sortL {ns : List Int} (hl : ns.length ≤ 16777216) (h : Q (.tmp (.list ((sortI ns).map .int)))) : gO (fSorted [.list (ns.map .int)]) Q := by with_unfolding_all exact TNO.o_sortL hl h
theorem o_sortT {ns : List Int} (hl : ns.length ≤ 16777216) (h : Q (.tmp (.list ((sortI ns).map .int)))) : gO (fSorted [.tuple (ns.map .int)]) Q := by with_unfolding_all exact TNO.o_sortT hl h
theorem o_setL {ns : List Int} (hl : ns.length ≤ 4000) (h : Q (.val (.int ((ddI ns).length : Nat)))) : gO (fLenSet (.list (ns.map .int))) Q := by with_unfolding_all exact TNO.o_setL hl h
theorem o_setT {ns : List Int} (hl : ns.length ≤ 4000) (h : Q (.val (.int ((ddI ns).length : Nat)))) : gO (fLenSet (.tuple (ns.map .int))) Q := by with_unfolding_all exact TNO.o_setT hl h
theorem o_webN {n : Nat} {ts : List (Nat × Nat)} (h : Q (.val (.int (n : Nat)))) : gO (opIx (webD n ts) (.int 0)) Q := by with_unfolding_all exact TNO.o_webN h
theorem o_webT {n : Nat} {ts : List (Nat × Nat)} (h : Q (.val (.tuple (ts.map tieD)))) : gO (opIx (webD n ts) (.int 1)) Q := by with_unfolding_all exact TNO.o_webT h
theorem o_seqL {Q : List D → Prop} (h : Q a) : gO (seqD (.list a)) Q := by with_unfolding_all exact TNO.o_seqL h
theorem o_seqT {Q : List D → Prop} (h : Q a) : gO (seqD (.tuple a)) Q := by with_unfolding_all exact TNO.o_seqT h
theorem o_sqL {Q : List D → Prop} (h : Q a) : gO (seqOf (.list a)) Q := by with_unfolding_all exact TNO.o_sqL h
theorem o_sqT {Q : List D → Prop} (h : Q a) : gO (seqOf (.tuple a)) Q := by with_unfolding_all exact TNO.o_sqT h
theorem o_allM {α : Type} {xs : List α} {f : α → Bool} (h : Q (.val (.bool (xs.all f)))) : gO (fAll [.list (xs.map fun x => .bool (f x))]) Q := by with_unfolding_all exact TNO.o_allM h
theorem o_addT (hl : a.length + b.length ≤ 16777216) (h : Q (.val (.tuple (a ++ b)))) : gO (opAdd (.tuple a) (.tuple b)) Q := by with_unfolding_all exact TNO.o_addT hl h
theorem o_addL (hl : a.length + b.length ≤ 16777216) (h : Q (.tmp (.list (a ++ b)))) : gO (opAdd (.list a) (.list b)) Q := by with_unfolding_all exact TNO.o_addL hl h
theorem o_slL {lo hi : Option Int} (h : Q (.tmp (.list (cutL a lo hi)))) : gO (opSl (.list a) lo hi) Q := by with_unfolding_all exact TNO.o_slL h
theorem o_slT {lo hi : Option Int} (h : Q (.val (.tuple (cutL a lo hi)))) : gO (opSl (.tuple a) lo hi) Q := by with_unfolding_all exact TNO.o_slT h
theorem o_app (hl : a.length < 16777216) (h : P (.list (a ++ [x])) .none) : gP (fAppend (.list a) [x]) P := by with_unfolding_all exact TNO.o_app hl h
theorem o_extL (hl : a.length + b.length ≤ 16777216) (h : P (.list (a ++ b)) .none) : gP (fExtend (.list a) [.list b]) P := by with_unfolding_all exact TNO.o_extL hl h
theorem o_extT (hl : a.length + b.length ≤ 16777216) (h : P (.list (a ++ b)) .none) : gP (fExtend (.list a) [.tuple b]) P := by with_unfolding_all exact TNO.o_extT hl h
theorem o_eqS {a b : Str} (ha : PyData.strOk a = true) (hb : PyData.strOk b = true) (h : Q (.val (.bool (a == b)))) : gO (opEq (.str a) (.str b)) Q := by with_unfolding_all exact TNO.o_eqS ha hb h
theorem o_neS {a b : Str} (ha : PyData.strOk a = true) (hb : PyData.strOk b = true) (h : Q (.val (.bool (!(a == b))))) : gO (opNe (.str a) (.str b)) Q := by with_unfolding_all exact TNO.o_neS ha hb h
theorem o_strS {a : Str} (h : Q (.val (.bool true))) : gO (opIsi "str" (.str a)) Q := by with_unfolding_all exact TNO.o_strS h
theorem o_allT {α : Type} {xs : List α} (h : Q (.val (.bool true))) : gO (fAll [.list (xs.map fun _ => PyData.bool true)]) Q := by with_unfolding_all exact TNO.o_allT h
theorem ix_rfl {x y : D} {r : Pl} (h : opIx x y = some r) (k : Q r) : gO (opIx x y) Q := by with_unfolding_all exact TNO.ix_rfl h k
theorem put_rfl {c k d c' : D} {Q : D → Prop} (h : putA c k d = some c') (q : Q c') : gO (putA c k d) Q := by with_unfolding_all exact TNO.put_rfl h q
end
theorem gO_of_mono {α : Type} {o : Option α} {P P' : α → Prop} (h : gO o P) (k : ∀ x, P x → P' x) : gO o P' := by with_unfolding_all exact TNO.gO_of_mono h k
theorem cp_rngI {ρ ρ1 : Rho} {g : D → Rho → Option Rho} {Q : Pl → Rho → Prop} {t : CB} {c : CE} {vs : List Nat} {e : Int} (n : Nat) (I : Nat → List D → Rho → Prop) (he : e = (n : Nat)) (hl : n ≤ 1000000) (hw : wipeOk ρ vs = true) (ew : wipeR ρ vs = ρ1) (h0 : I 0 [] ρ1)
    (hs : ∀ k acc ρ, k < n → I k acc ρ → elW g t c vs ρ (.int (k : Nat)) fun o ρ' => I (k + 1) (acc ++ o.toList) ρ') (hN : ∀ acc ρ2, I n acc ρ2 → setB ρ ρ2 vs (Q (.tmp (.list acc)))) : cpW (rgD 0 e) g t c vs ρ Q := by with_unfolding_all exact TNO.cp_rngI n I he hl hw ew h0 hs hN
end TN
local macro_rules | `(tactic| array_mem_dec) => `(tactic| ((with_reducible apply TN.br_f); (decide +kernel)))
local macro_rules | `(tactic| array_mem_dec) => `(tactic| ((with_reducible apply TN.br_t); (decide +kernel)))
local macro_rules | `(tactic| array_mem_dec) => `(tactic| ((with_reducible apply TN.br_f); exact rfl))
local macro_rules | `(tactic| array_mem_dec) => `(tactic| ((with_reducible apply TN.br_t); exact rfl))
local macro_rules | `(tactic| array_mem_dec) => `(tactic| ((with_reducible apply TN.put_rfl); exact rfl))
local macro_rules | `(tactic| array_mem_dec) => `(tactic| ((with_reducible apply TN.ix_rfl); exact rfl))
local macro_rules | `(tactic| array_mem_dec) => `(tactic| ((with_reducible apply TN.setB_i); (repeat (first | exact TN.back_nil | ((apply TN.back_cons); exact rfl) | exact TN.st0 | apply TN.stS))))
local macro_rules | `(tactic| array_mem_dec) => `(tactic| ((with_reducible apply TN.wpd_i); (first | exact rfl | (repeat (first | exact TN.wOk_nil | ((apply TN.wOk_cons); exact rfl; (first | exact TN.okW_none | exact TN.okW_fz | exact TN.okW_jk | assumption))))); (repeat (first | exact TN.wipe_nil | apply TN.wipe_cons | exact TN.st0 | apply TN.stS))))
local macro_rules | `(tactic| array_mem_dec) => `(tactic| (with_reducible apply TN.w_newT))
local macro_rules | `(tactic| array_mem_dec) => `(tactic| (with_reducible apply TN.w_newK))
local macro_rules | `(tactic| array_mem_dec) => `(tactic| ((with_reducible apply TN.rg_i); omega))
local macro_rules | `(tactic| array_mem_dec) => `(tactic| (with_reducible apply TN.w_rg2))
local macro_rules | `(tactic| array_mem_dec) => `(tactic| (with_reducible apply TN.w_rg1))
local macro_rules | `(tactic| array_mem_dec) => `(tactic| (with_reducible apply TN.w_tupRg))
local macro_rules | `(tactic| array_mem_dec) => `(tactic| (with_reducible apply TN.w_lstRg))
local macro_rules | `(tactic| array_mem_dec) => `(tactic| (with_reducible apply TN.prW_i))
local macro_rules | `(tactic| array_mem_dec) => `(tactic| (with_reducible apply TN.w_ch3))
local macro_rules | `(tactic| array_mem_dec) => `(tactic| (with_reducible apply TN.w_chE))
local macro_rules | `(tactic| array_mem_dec) => `(tactic| (with_reducible apply TN.w_chI))
local macro_rules | `(tactic| array_mem_dec) => `(tactic| ((with_reducible apply TN.ty_i); exact rfl))
local macro_rules | `(tactic| array_mem_dec) => `(tactic| (with_reducible apply TN.w_mt))
local macro_rules | `(tactic| array_mem_dec) => `(tactic| (with_reducible apply TN.w_part))
local macro_rules | `(tactic| array_mem_dec) => `(tactic| (with_reducible apply TN.w_noPart))
local macro_rules | `(tactic| array_mem_dec) => `(tactic| (with_reducible apply TN.w_sl))
local macro_rules | `(tactic| array_mem_dec) => `(tactic| ((with_reducible apply TN.tryW_i); (decide +kernel); (first | exact rfl | exact TN.can_ok rfl (by assumption) | exact TN.can_ok rfl TN.okS_jk | exact TN.can_ok rfl (TN.okS_md (by assumption))); (repeat (first | exact TN.st0 | apply TN.stS))))
local macro_rules | `(tactic| array_mem_dec) => `(tactic| (with_reducible apply TN.s_try))
local macro_rules | `(tactic| array_mem_dec) => `(tactic| (with_reducible apply TN.s_raiseA))
local macro_rules | `(tactic| array_mem_dec) => `(tactic| (with_reducible apply TN.s_raise))
local macro_rules | `(tactic| array_mem_dec) => `(tactic| (with_reducible apply TN.s_par))
local macro_rules | `(tactic| array_mem_dec) => `(tactic| ((with_reducible apply TN.putL_rfl); exact rfl))
local macro_rules | `(tactic| array_mem_dec) => `(tactic| ((with_reducible apply TN.at_rfl); exact rfl))
local macro_rules | `(tactic| array_mem_dec) => `(tactic| (with_reducible apply TN.lsD_l))
local macro_rules | `(tactic| array_mem_dec) => `(tactic| (with_reducible apply TN.s_augS))
local macro_rules | `(tactic| array_mem_dec) => `(tactic| (with_reducible apply TN.s_aug))
local macro_rules | `(tactic| array_mem_dec) => `(tactic| (with_reducible apply TN.s_unp))
local macro_rules | `(tactic| array_mem_dec) => `(tactic| (with_reducible apply TN.t_put))
local macro_rules | `(tactic| array_mem_dec) => `(tactic| (with_reducible apply TN.t_cons))
local macro_rules | `(tactic| array_mem_dec) => `(tactic| (with_reducible apply TN.t_nil))
local macro_rules | `(tactic| array_mem_dec) => `(tactic| (with_reducible apply TN.t_tie))
local macro_rules | `(tactic| array_mem_dec) => `(tactic| ((with_reducible apply TN.t_tp); exact rfl))
local macro_rules | `(tactic| array_mem_dec) => `(tactic| (with_reducible apply TN.t_nm))
local macro_rules | `(tactic| array_mem_dec) => `(tactic| (with_reducible apply TN.o_slT))
local macro_rules | `(tactic| array_mem_dec) => `(tactic| (with_reducible apply TN.o_slL))
local macro_rules | `(tactic| array_mem_dec) => `(tactic| ((with_reducible apply TN.o_addL); (first | omega | (simp only [List.length_append, List.length_cons, List.length_nil, List.length_map, List.length_range, List.length_replicate, List.length_reverse, List.length_take, List.length_drop, List.length_set]; omega) | (simp; omega))))
local macro_rules | `(tactic| array_mem_dec) => `(tactic| ((with_reducible apply TN.o_addT); (first | omega | (simp only [List.length_append, List.length_cons, List.length_nil, List.length_map, List.length_range, List.length_replicate, List.length_reverse, List.length_take, List.length_drop, List.length_set]; omega) | (simp; omega))))
local macro_rules | `(tactic| array_mem_dec) => `(tactic| ((with_reducible apply TN.o_neS); (decide +kernel); (decide +kernel)))
local macro_rules | `(tactic| array_mem_dec) => `(tactic| ((with_reducible apply TN.o_eqS); (decide +kernel); (decide +kernel)))
local macro_rules | `(tactic| array_mem_dec) => `(tactic| (with_reducible apply TN.o_strS))
local macro_rules | `(tactic| array_mem_dec) => `(tactic| (with_reducible apply TN.o_allM))
local macro_rules | `(tactic| array_mem_dec) => `(tactic| (with_reducible apply TN.o_allT))
local macro_rules | `(tactic| array_mem_dec) => `(tactic| (with_reducible apply TN.o_webT))
local macro_rules | `(tactic| array_mem_dec) => `(tactic| (with_reducible apply TN.o_webN))
local macro_rules | `(tactic| array_mem_dec) => `(tactic| ((with_reducible apply TN.o_setT); (first | omega | (simp only [List.length_append, List.length_cons, List.length_nil, List.length_map, List.length_range, List.length_replicate, List.length_reverse, List.length_take, List.length_drop, List.length_set]; omega) | (simp; omega))))
local macro_rules | `(tactic| array_mem_dec) => `(tactic| ((with_reducible apply TN.o_setL); (first | omega | (simp only [List.length_append, List.length_cons, List.length_nil, List.length_map, List.length_range, List.length_replicate, List.length_reverse, List.length_take, List.length_drop, List.length_set]; omega) | (simp; omega))))
local macro_rules | `(tactic| array_mem_dec) => `(tactic| ((with_reducible apply TN.o_sortT); (first | omega | (simp only [List.length_append, List.length_cons, List.length_nil, List.length_map, List.length_range, List.length_replicate, List.length_reverse, List.length_take, List.length_drop, List.length_set]; omega) | (simp; omega))))
local macro_rules | `(tactic| array_mem_dec) => `(tactic| ((with_reducible apply TN.o_sortL); (first | omega | (simp only [List.length_append, List.length_cons, List.length_nil, List.length_map, List.length_range, List.length_replicate, List.length_reverse, List.length_take, List.length_drop, List.length_set]; omega) | (simp; omega))))
local macro_rules | `(tactic| array_mem_dec) => `(tactic| (with_reducible apply TN.o_sumT))
local macro_rules | `(tactic| array_mem_dec) => `(tactic| (with_reducible apply TN.o_sumL))
local macro_rules | `(tactic| array_mem_dec) => `(tactic| (with_reducible apply TN.o_lstT))
local macro_rules | `(tactic| array_mem_dec) => `(tactic| (with_reducible apply TN.o_lstL))
local macro_rules | `(tactic| array_mem_dec) => `(tactic| (with_reducible apply TN.o_tupT))
local macro_rules | `(tactic| array_mem_dec) => `(tactic| (with_reducible apply TN.o_tupL))
local macro_rules | `(tactic| array_mem_dec) => `(tactic| (with_reducible apply TN.o_min2))
local macro_rules | `(tactic| array_mem_dec) => `(tactic| (with_reducible apply TN.o_max2))
local macro_rules | `(tactic| array_mem_dec) => `(tactic| (with_reducible apply TN.o_abs))
local macro_rules | `(tactic| array_mem_dec) => `(tactic| (with_reducible apply TN.o_intB))
local macro_rules | `(tactic| array_mem_dec) => `(tactic| (with_reducible apply TN.o_intI))
local macro_rules | `(tactic| array_mem_dec) => `(tactic| (with_reducible apply TN.o_lenT))
local macro_rules | `(tactic| array_mem_dec) => `(tactic| (with_reducible apply TN.o_lenL))
local macro_rules | `(tactic| array_mem_dec) => `(tactic| (with_reducible apply TN.o_lenMt))
local macro_rules | `(tactic| array_mem_dec) => `(tactic| (with_reducible apply TN.o_lenM))
local macro_rules | `(tactic| array_mem_dec) => `(tactic| (with_reducible apply TN.o_bool))
local macro_rules | `(tactic| array_mem_dec) => `(tactic| (with_reducible apply TN.o_lst))
local macro_rules | `(tactic| array_mem_dec) => `(tactic| (with_reducible apply TN.o_tup))
local macro_rules | `(tactic| array_mem_dec) => `(tactic| (with_reducible apply TN.o_notN))
local macro_rules | `(tactic| array_mem_dec) => `(tactic| (with_reducible apply TN.o_isN))
local macro_rules | `(tactic| array_mem_dec) => `(tactic| (with_reducible apply TN.o_neT))
local macro_rules | `(tactic| array_mem_dec) => `(tactic| (with_reducible apply TN.o_eqT))
local macro_rules | `(tactic| array_mem_dec) => `(tactic| (with_reducible apply TN.o_neL))
local macro_rules | `(tactic| array_mem_dec) => `(tactic| (with_reducible apply TN.o_eqL))
local macro_rules | `(tactic| array_mem_dec) => `(tactic| (with_reducible apply TN.o_neB))
local macro_rules | `(tactic| array_mem_dec) => `(tactic| (with_reducible apply TN.o_eqB))
local macro_rules | `(tactic| array_mem_dec) => `(tactic| (with_reducible apply TN.o_neI))
local macro_rules | `(tactic| array_mem_dec) => `(tactic| (with_reducible apply TN.o_eqI))
local macro_rules | `(tactic| array_mem_dec) => `(tactic| (with_reducible apply TN.o_ltG))
local macro_rules | `(tactic| array_mem_dec) => `(tactic| ((with_reducible apply TN.o_div); omega))
local macro_rules | `(tactic| array_mem_dec) => `(tactic| ((with_reducible apply TN.o_mod); omega))
local macro_rules | `(tactic| array_mem_dec) => `(tactic| ((with_reducible apply TN.o_mul); omega))
local macro_rules | `(tactic| array_mem_dec) => `(tactic| (with_reducible apply TN.o_neg))
local macro_rules | `(tactic| array_mem_dec) => `(tactic| (with_reducible apply TN.o_sub))
local macro_rules | `(tactic| array_mem_dec) => `(tactic| (with_reducible apply TN.o_add))
local macro_rules | `(tactic| array_mem_dec) => `(tactic| ((with_reducible apply TN.o_extT); (first | omega | (simp only [List.length_append, List.length_cons, List.length_nil, List.length_map, List.length_range, List.length_replicate, List.length_reverse, List.length_take, List.length_drop, List.length_set]; omega) | (simp; omega))))
local macro_rules | `(tactic| array_mem_dec) => `(tactic| ((with_reducible apply TN.o_extL); (first | omega | (simp only [List.length_append, List.length_cons, List.length_nil, List.length_map, List.length_range, List.length_replicate, List.length_reverse, List.length_take, List.length_drop, List.length_set]; omega) | (simp; omega))))
local macro_rules | `(tactic| array_mem_dec) => `(tactic| ((with_reducible apply TN.o_app); (first | omega | (simp only [List.length_append, List.length_cons, List.length_nil, List.length_map, List.length_range, List.length_replicate, List.length_reverse, List.length_take, List.length_drop, List.length_set]; omega) | (simp; omega))))
local macro_rules | `(tactic| array_mem_dec) => `(tactic| ((with_reducible apply TN.setW_i); (repeat (first | exact TN.st0 | apply TN.stS))))
local macro_rules | `(tactic| array_mem_dec) => `(tactic| ((with_reducible apply TN.ownW_lent); exact rfl))
local macro_rules | `(tactic| array_mem_dec) => `(tactic| ((with_reducible apply TN.ownW_own); exact rfl))
local macro_rules | `(tactic| array_mem_dec) => `(tactic| ((with_reducible apply TN.w_mutL); exact rfl))
local macro_rules | `(tactic| array_mem_dec) => `(tactic| (with_reducible apply TN.o_sqT))
local macro_rules | `(tactic| array_mem_dec) => `(tactic| (with_reducible apply TN.o_sqL))
local macro_rules | `(tactic| array_mem_dec) => `(tactic| (with_reducible apply TN.o_seqT))
local macro_rules | `(tactic| array_mem_dec) => `(tactic| (with_reducible apply TN.o_seqL))
local macro_rules | `(tactic| array_mem_dec) => `(tactic| ((with_reducible apply TN.gP_of); (with_reducible assumption)))
local macro_rules | `(tactic| array_mem_dec) => `(tactic| ((with_reducible apply TN.gO_of); (with_reducible assumption)))
local macro_rules | `(tactic| array_mem_dec) => `(tactic| (with_reducible apply TN.elW_i))
local macro_rules | `(tactic| array_mem_dec) => `(tactic| (with_reducible apply TN.w_comp))
local macro_rules | `(tactic| array_mem_dec) => `(tactic| (with_reducible apply TN.w_zip))
local macro_rules | `(tactic| array_mem_dec) => `(tactic| (with_reducible apply TN.w_rev))
local macro_rules | `(tactic| array_mem_dec) => `(tactic| (with_reducible apply TN.w_enum))
local macro_rules | `(tactic| array_mem_dec) => `(tactic| ((with_reducible apply TN.rf_i); omega))
local macro_rules | `(tactic| array_mem_dec) => `(tactic| (with_reducible apply TN.w_r3))
local macro_rules | `(tactic| array_mem_dec) => `(tactic| (with_reducible apply TN.w_r2))
local macro_rules | `(tactic| array_mem_dec) => `(tactic| (with_reducible apply TN.w_r1))
local macro_rules | `(tactic| array_mem_dec) => `(tactic| (with_reducible apply TN.w_it))
local macro_rules | `(tactic| array_mem_dec) => `(tactic| (with_reducible apply TN.s_for))
local macro_rules | `(tactic| array_mem_dec) => `(tactic| (with_reducible apply TN.s_retN))
local macro_rules | `(tactic| array_mem_dec) => `(tactic| (with_reducible apply TN.s_skip))
local macro_rules | `(tactic| array_mem_dec) => `(tactic| (with_reducible apply TN.s_drop))
local macro_rules | `(tactic| array_mem_dec) => `(tactic| ((with_reducible apply TN.rt_lent); exact rfl; (repeat (first | exact TN.st0 | apply TN.stS))))
local macro_rules | `(tactic| array_mem_dec) => `(tactic| ((with_reducible apply TN.rt_own); exact rfl; (repeat (first | exact TN.st0 | apply TN.stS))))
local macro_rules | `(tactic| array_mem_dec) => `(tactic| (with_reducible apply TN.rt_tmp))
local macro_rules | `(tactic| array_mem_dec) => `(tactic| (with_reducible apply TN.rt_val))
local macro_rules | `(tactic| array_mem_dec) => `(tactic| (with_reducible apply TN.s_ret))
local macro_rules | `(tactic| array_mem_dec) => `(tactic| (with_reducible apply TN.fzA_cons))
local macro_rules | `(tactic| array_mem_dec) => `(tactic| (with_reducible apply TN.fzA_nil))
local macro_rules | `(tactic| array_mem_dec) => `(tactic| ((with_reducible apply TN.fz1_lent); exact rfl; (repeat (first | exact TN.st0 | apply TN.stS))))
local macro_rules | `(tactic| array_mem_dec) => `(tactic| ((with_reducible apply TN.fz1_own); exact rfl; (repeat (first | exact TN.st0 | apply TN.stS))))
local macro_rules | `(tactic| array_mem_dec) => `(tactic| (with_reducible apply TN.fz1_tmp))
local macro_rules | `(tactic| array_mem_dec) => `(tactic| (with_reducible apply TN.fz1_val))
local macro_rules | `(tactic| array_mem_dec) => `(tactic| ((with_reducible apply TN.lenW_i); (repeat (first | exact TN.len_nil | apply TN.len_cons))))
local macro_rules | `(tactic| array_mem_dec) => `(tactic| (with_reducible apply TN.w_lst))
local macro_rules | `(tactic| array_mem_dec) => `(tactic| (with_reducible apply TN.w_tup))
local macro_rules | `(tactic| array_mem_dec) => `(tactic| (with_reducible apply TN.w_ite))
local macro_rules | `(tactic| array_mem_dec) => `(tactic| (with_reducible apply TN.w_notV))
local macro_rules | `(tactic| array_mem_dec) => `(tactic| (with_reducible apply TN.w_orV))
local macro_rules | `(tactic| array_mem_dec) => `(tactic| (with_reducible apply TN.w_andV))
local macro_rules | `(tactic| array_mem_dec) => `(tactic| (with_reducible apply TN.w_true))
local macro_rules | `(tactic| array_mem_dec) => `(tactic| (with_reducible apply TN.w_not))
local macro_rules | `(tactic| array_mem_dec) => `(tactic| (with_reducible apply TN.w_or))
local macro_rules | `(tactic| array_mem_dec) => `(tactic| (with_reducible apply TN.w_and))
local macro_rules | `(tactic| array_mem_dec) => `(tactic| (with_reducible apply TN.w_fn))
local macro_rules | `(tactic| array_mem_dec) => `(tactic| (with_reducible apply TN.w_un))
local macro_rules | `(tactic| array_mem_dec) => `(tactic| ((with_reducible apply TN.c_draw); exact rfl; (first | exact Or.inl rfl | exact Or.inr rfl); omega))
local macro_rules | `(tactic| array_mem_dec) => `(tactic| (with_reducible apply TN.c_pen))
local macro_rules | `(tactic| array_mem_dec) => `(tactic| ((with_reducible apply TN.br_p); (with_reducible exact rfl)))
local macro_rules | `(tactic| array_mem_dec) => `(tactic| ((with_reducible apply TN.br_n); omega))
local macro_rules | `(tactic| array_mem_dec) => `(tactic| ((with_reducible apply TN.br_p); omega))
local macro_rules | `(tactic| array_mem_dec) => `(tactic| ((with_reducible apply TN.br_f); (with_reducible assumption)))
local macro_rules | `(tactic| array_mem_dec) => `(tactic| ((with_reducible apply TN.br_t); (with_reducible assumption)))
local macro_rules | `(tactic| array_mem_dec) => `(tactic| (with_reducible apply TN.br_or))
local macro_rules | `(tactic| array_mem_dec) => `(tactic| (with_reducible apply TN.br_and))
local macro_rules | `(tactic| array_mem_dec) => `(tactic| ((with_reducible apply TN.br_sT); (decide +kernel)))
local macro_rules | `(tactic| array_mem_dec) => `(tactic| ((with_reducible apply TN.br_sF); (decide +kernel)))
local macro_rules | `(tactic| array_mem_dec) => `(tactic| (with_reducible apply TN.br_not))
local macro_rules | `(tactic| array_mem_dec) => `(tactic| (with_reducible apply TN.br_false))
local macro_rules | `(tactic| array_mem_dec) => `(tactic| (with_reducible apply TN.br_true))
local macro_rules | `(tactic| array_mem_dec) => `(tactic| ((with_reducible apply TN.sto_lent); exact rfl; (repeat (first | exact TN.st0 | apply TN.stS)); (first | exact rfl | exact TN.can_ok rfl (by assumption) | exact TN.can_ok rfl TN.okS_jk | exact TN.can_ok rfl (TN.okS_md (by assumption))); (repeat (first | exact TN.st0 | apply TN.stS))))
local macro_rules | `(tactic| array_mem_dec) => `(tactic| ((with_reducible apply TN.sto_own); exact rfl; (repeat (first | exact TN.st0 | apply TN.stS)); (first | exact rfl | exact TN.can_ok rfl (by assumption) | exact TN.can_ok rfl TN.okS_jk | exact TN.can_ok rfl (TN.okS_md (by assumption))); (repeat (first | exact TN.st0 | apply TN.stS))))
local macro_rules | `(tactic| array_mem_dec) => `(tactic| ((with_reducible apply TN.sto_tmp); (first | exact rfl | exact TN.can_ok rfl (by assumption) | exact TN.can_ok rfl TN.okS_jk | exact TN.can_ok rfl (TN.okS_md (by assumption))); (repeat (first | exact TN.st0 | apply TN.stS))))
local macro_rules | `(tactic| array_mem_dec) => `(tactic| ((with_reducible apply TN.sto_val); (first | exact rfl | exact TN.can_ok rfl (by assumption) | exact TN.can_ok rfl TN.okS_jk | exact TN.can_ok rfl (TN.okS_md (by assumption))); (repeat (first | exact TN.st0 | apply TN.stS))))
local macro_rules | `(tactic| array_mem_dec) => `(tactic| (with_reducible apply TN.s_set))
local macro_rules | `(tactic| array_mem_dec) => `(tactic| (with_reducible apply TN.s_if))
local macro_rules | `(tactic| array_mem_dec) => `(tactic| (with_reducible apply TN.w_tst))
local macro_rules | `(tactic| array_mem_dec) => `(tactic| (with_reducible apply TN.isI_i))
local macro_rules | `(tactic| array_mem_dec) => `(tactic| (with_reducible apply TN.isB_b))
local macro_rules | `(tactic| array_mem_dec) => `(tactic| (with_reducible apply TN.lkA_cons))
local macro_rules | `(tactic| array_mem_dec) => `(tactic| (with_reducible apply TN.lkA_nil))
local macro_rules | `(tactic| array_mem_dec) => `(tactic| (with_reducible apply TN.lk_tmp))
local macro_rules | `(tactic| array_mem_dec) => `(tactic| ((with_reducible apply TN.lk_slot); exact rfl))
local macro_rules | `(tactic| array_mem_dec) => `(tactic| (with_reducible apply TN.lk_val))
local macro_rules | `(tactic| array_mem_dec) => `(tactic| (with_reducible apply TN.w_call))
local macro_rules | `(tactic| array_mem_dec) => `(tactic| (with_reducible apply TN.w_nil))
local macro_rules | `(tactic| array_mem_dec) => `(tactic| (with_reducible apply TN.w_cons))
local macro_rules | `(tactic| array_mem_dec) => `(tactic| ((with_reducible apply TN.lk_any); (with_reducible assumption); exact rfl))
local macro_rules | `(tactic| array_mem_dec) => `(tactic| ((with_reducible apply TN.w_any2); exact rfl; (with_reducible assumption); intro _ _))
local macro_rules | `(tactic| array_mem_dec) => `(tactic| ((with_reducible apply TN.w_any); exact rfl; (with_reducible assumption); intro _ _))
local macro_rules | `(tactic| array_mem_dec) => `(tactic| ((with_reducible apply TN.w_lz); exact rfl))
local macro_rules | `(tactic| array_mem_dec) => `(tactic| ((with_reducible apply TN.w_lent); exact rfl))
local macro_rules | `(tactic| array_mem_dec) => `(tactic| ((with_reducible apply TN.w_own); exact rfl))
local macro_rules | `(tactic| array_mem_dec) => `(tactic| (with_reducible apply TN.w_lit))
local macro_rules | `(tactic| array_mem_dec) => `(tactic| ((with_reducible apply TN.w_fz); exact rfl))
local macro_rules | `(tactic| array_mem_dec) => `(tactic| (with_reducible apply TN.w_bin))
local macro_rules | `(tactic| array_mem_dec) => `(tactic| (with_reducible apply TN.s_seq))
namespace TN
open PySem PySem.Spec PyProof.Rows L2
section
variable {ρ ρ1 : Rho} {N : Rho → Prop} {T : D → Bool → Rho → Prop} {E : Xc → Rho → Prop} {g : D → Rho → Option Rho} {b : CS}
theorem for_rng {e : Int} (n : Nat) (I : Nat → Rho → Prop) (he : e = (n : Nat)) (h0 : I 0 ρ) (hs : ∀ k ρ, k < n → I k ρ → gO (g (.int (k : Nat)) ρ) fun ρ1 => gS (b ρ1) (I (k + 1)) T E) (hN : ∀ ρ, I n ρ → N ρ) : gS (forL g b (rgD 0 e) ρ) N T E := by
  subst he
  refine for_inv (List.range n) (fun (k : Nat) => .int (k : Nat)) (fun pre ρ => I pre.length ρ) (rgD_nat n) h0 (fun pre x post ρ hE hI => ?_) fun ρ h => hN ρ (by rw [List.length_range] at h; exact h)
  obtain ⟨rfl, hx⟩ := rng_at hE
  refine gO_of_mono (hs pre.length ρ hx hI) fun ρ1 h => ?_
  rw [List.length_append]; exact h
theorem cp_rng {Q : Pl → Rho → Prop} {t : CB} {c : CE} {vs : List Nat} {e : Int} (n : Nat) (out : Nat → D) (he : e = (n : Nat)) (hl : n ≤ 1000000) (hw : wipeOk ρ vs = true) (ew : wipeR ρ vs = ρ1)
    (hs : ∀ k, k < n → elW g t c vs ρ1 (.int (k : Nat)) fun o ρ' => o = some (out k) ∧ ρ' = ρ1) (k : Q (.tmp (.list ((List.range n).map out))) ρ) : cpW (rgD 0 e) g t c vs ρ Q := by
  subst he
  exact cp_map (List.range n) (fun (k : Nat) => .int (k : Nat)) out (rgD_nat n) (by simpa using hl) hw ew (fun x hx => hs x (List.mem_range.mp hx)) k
end
theorem rgD_off (lo n : Nat) {a e : Int} (ha : a = (lo : Nat)) (he : e = ((lo + n : Nat) : Int)) : rgD a e = (List.range n).map fun (k : Nat) => PyData.int ((lo + k : Nat) : Int) := by
  subst ha he
  unfold rgD
  rw [show (((lo + n : Nat) : Int) - (lo : Nat)).toNat = n by omega]
  refine List.map_congr_left fun k _ => ?_
  rw [Int.natCast_add]
theorem cp_rng2 {ρ ρ1 : Rho} {g : D → Rho → Option Rho} {Q : Pl → Rho → Prop} {t : CB} {c : CE} {vs : List Nat} {a e : Int} (lo n : Nat) (out : Nat → D) (ha : a = (lo : Nat)) (he : e = ((lo + n : Nat) : Int)) (hl : n ≤ 1000000) (hw : wipeOk ρ vs = true) (ew : wipeR ρ vs = ρ1)
    (hs : ∀ k, k < n → elW g t c vs ρ1 (.int ((lo + k : Nat) : Int)) fun o ρ' => o = some (out k) ∧ ρ' = ρ1) (k : Q (.tmp (.list ((List.range n).map out))) ρ) : cpW (rgD a e) g t c vs ρ Q :=
  cp_map (List.range n) (fun (k : Nat) => .int ((lo + k : Nat) : Int)) out (rgD_off lo n ha he) (by simpa using hl) hw ew (fun x hx => hs x (List.mem_range.mp hx)) k
theorem enum_zip {α : Type} (xs : List α) (f : α → D) : enumD (xs.map f) = xs.zipIdx.map fun p => PyData.tuple [.int (p.2 : Nat), f p.1] := by
  unfold enumD
  apply List.ext_getElem?
  intro i
  rw [List.getElem?_mapIdx, List.getElem?_map, List.getElem?_map, List.getElem?_zipIdx]
  cases xs[i]? <;> simp
theorem zip_at {α : Type} {xs : List α} {pre post : List (α × Nat)} {p : α × Nat} (h : xs.zipIdx = pre ++ p :: post) : p.2 = pre.length ∧ xs = pre.map Prod.fst ++ p.1 :: post.map Prod.fst := by
  have h1 : xs.zipIdx[pre.length]? = some p := by rw [h]; simp
  rw [List.getElem?_zipIdx] at h1
  cases hx : xs[pre.length]? with
  | none => rw [hx] at h1; cases h1
  | some x =>
    rw [hx] at h1
    simp at h1
    refine ⟨by rw [← h1], ?_⟩
    have := congrArg (List.map Prod.fst) h
    rw [List.zipIdx_map_fst, List.map_append, List.map_cons] at this
    exact this
theorem for_enum {α : Type} {ρ : Rho} {N : Rho → Prop} {T : D → Bool → Rho → Prop} {E : Xc → Rho → Prop} {g : D → Rho → Option Rho} {b : CS} (xs : List α) (f : α → D) (I : List α → Rho → Prop) {ds : List D} (hds : ds = xs.map f) (h0 : I [] ρ)
    (hs : ∀ pre x post ρ, xs = pre ++ x :: post → I pre ρ → gO (g (.tuple [.int (pre.length : Nat), f x]) ρ) fun ρ1 => gS (b ρ1) (I (pre ++ [x])) T E) (hN : ∀ ρ, I xs ρ → N ρ) : gS (forL g b (enumD ds) ρ) N T E := by
  subst hds
  refine for_inv xs.zipIdx (fun p => PyData.tuple [.int (p.2 : Nat), f p.1]) (fun pre ρ => I (pre.map Prod.fst) ρ) (enum_zip xs f) h0 (fun pre p post ρ hE hI => ?_) fun ρ h => hN ρ (by rw [List.zipIdx_map_fst] at h; exact h)
  obtain ⟨h1, h2⟩ := zip_at hE
  have := hs _ _ _ ρ h2 hI
  rw [List.length_map, ← h1] at this
  rw [List.map_append]
  exact this
theorem tie_eq {a b : Int} {t : Nat × Nat} (h1 : a = (t.1 : Nat)) (h2 : b = (t.2 : Nat)) : PyData.tuple [.int a, .int b] = tieD t := by subst h1 h2; rfl
end TN
namespace TN
open PySem PySem.Spec PyProof.Rows L2
abbrev bb_parting_of_1 : CS := (cIf (cTst (cBin opEq (cFn fAbs (cCons (cBin opSub (cBin opIx (cVar 1) (cVar 2)) (cBin opIx (cVar 1) (cVar 3))) cNil)) (cLit (.int 1))))
  (cRet (cFn fMin2 (cCons (cBin opIx (cVar 1) (cVar 2)) (cCons (cBin opIx (cVar 1) (cVar 3)) cNil))))
  cSkip)
abbrev cc_parting_of : CS := (cSeq (cFor (cIt (cBin opIx (cVar 0) (cLit (.int 1)))) (gTp 2 (gsCons (gNm 2) (gsCons (gNm 3) gsNil)))
  bb_parting_of_1)
  (cRet (cLit (.int 0))))
def MM_parting_of : FM := mkF 2 4 cc_parting_of
theorem in_parting_of {x0 x1 : D} {m0 m1 : Md} {T : D → Bool → List Slot → Prop} {E : Xc → List Slot → Prop} (h : gS (cc_parting_of [some (x0, m0), some (x1, m1), none, none]) (fun ρ => T .none false (ρ.take 2)) (fun d fr ρ => T d fr (ρ.take 2)) (fun x ρ => E x (ρ.take 2))) : gF (MM_parting_of [(x0, m0), (x1, m1)]) T E := gF_mk rfl h
section
variable (legs : List Nat)
def partI : Int := loS legs legs.length - 1
end
end TN
namespace TN
open PySem PySem.Spec PyProof.Rows L2
/-! parted numberings of trees, plainly -/
structure Ptd (n : Nat) (ts : List (Nat × Nat)) (ns : List Int) (lo : Int) : Prop where
  ln : ns.length = n
  nn : n = ts.length + 1
  t1 : 1 ≤ ts.length
  pm : ns.Perm (rgI 0 ((ts.length : Int) + 1))
  sp : (steps ns ts).Perm (rgI 1 ((ts.length : Int) + 1))
  cut : ∀ t ∈ ts, min (ns.getD t.1 0) (ns.getD t.2 0) ≤ lo ∧ lo < max (ns.getD t.1 0) (ns.getD t.2 0)
  lt : ∀ t ∈ ts, t.1 < n ∧ t.2 < n
theorem rg_mem0 {a b x : Int} : x ∈ rgI a b ↔ a ≤ x ∧ x < b := by
  unfold rgI
  rw [List.mem_map]
  constructor
  · rintro ⟨i, hi, rfl⟩
    have := List.mem_range.mp hi
    omega
  · rintro ⟨h1, h2⟩
    exact ⟨(x - a).toNat, List.mem_range.mpr (by omega), by omega⟩
theorem rg_len (a b : Int) : (rgI a b).length = (b - a).toNat := by simp [rgI]
section
variable {n : Nat} {ts : List (Nat × Nat)} {ns : List Int} {lo : Int}
theorem Ptd.rng (p : Ptd n ts ns lo) : ∀ x ∈ ns, 0 ≤ x ∧ x ≤ ts.length := fun x hx => by
  have := rg_mem0.mp (p.pm.mem_iff.mp hx); omega
theorem Ptd.lo0 (p : Ptd n ts ns lo) : 0 ≤ lo ∧ lo < ts.length := by
  have ht1 := p.t1
  obtain ⟨t, ht⟩ : ∃ t, t ∈ ts := List.exists_mem_of_ne_nil _ fun z => by rw [z] at ht1; simp at ht1
  have := p.cut t ht
  have hlt := p.lt t ht
  have hln := p.ln
  have h1 := p.rng _ (getD_memI (ns := ns) (i := t.1) (by omega))
  have h2 := p.rng _ (getD_memI (ns := ns) (i := t.2) (by omega))
  omega
/-- the tie of step 1 -/
theorem Ptd.one (p : Ptd n ts ns lo) : (∃ t ∈ ts, absI (ns.getD t.1 0 - ns.getD t.2 0) = 1) ∧ ∀ t ∈ ts, absI (ns.getD t.1 0 - ns.getD t.2 0) = 1 → min (ns.getD t.1 0) (ns.getD t.2 0) = lo := by
  refine ⟨?_, fun t ht h => ?_⟩
  · have h1 := p.t1
    have : (1 : Int) ∈ steps ns ts := p.sp.mem_iff.mpr (rg_mem0.mpr (by omega))
    unfold steps at this
    obtain ⟨t, ht, e⟩ := List.mem_map.mp this
    exact ⟨t, ht, e⟩
  · have := p.cut t ht
    unfold absI at h
    split at h <;> omega
/-! the round numbering by it -/
def rfI (c : Nat) (lo x : Int) : Int := if x > lo then lo + 1 + c - x else x
def rndI (c : Nat) (lo : Int) (ns : List Int) : List Int := ns.map fun x => rfI c lo x % c
theorem Ptd.rf (p : Ptd n ts ns lo) : (ns.map (rfI ts.length lo)).Perm (rgI 0 ((ts.length : Int) + 1)) := by
  have hlo := p.lo0
  have hln := p.ln
  refine perm_of ?_ ?_ (by rw [List.length_map, rg_len, hln, p.nn]; omega)
  · unfold List.Nodup
    rw [List.pairwise_map]
    refine List.Pairwise.imp_of_mem (fun {a b} ha hb hab h => ?_) (p.pm.nodup_iff.mpr (rg_nodup _ _))
    have h2 := p.rng a ha
    have h3 := p.rng b hb
    unfold rfI at h
    split at h <;> split at h <;> omega
  · intro x hx
    obtain ⟨y, hy, rfl⟩ := List.mem_map.mp hx
    have := p.rng y hy
    refine rg_mem0.mpr ?_
    unfold rfI
    split <;> omega
theorem mod_lt {c : Nat} {x : Int} (hc : 1 ≤ c) : 0 ≤ x % (c : Int) ∧ x % (c : Int) < c := ⟨Int.emod_nonneg _ (by omega), Int.emod_lt_of_pos _ (by omega)⟩
theorem Ptd.dd (p : Ptd n ts ns lo) : (ddI (rndI ts.length lo ns)).length + 1 = n := by
  have h1 := p.t1
  have hp : (ddI (rndI ts.length lo ns)).Perm (rgI 0 (ts.length : Int)) := by
    refine (List.perm_ext_iff_of_nodup (ddI_nodup _) (rg_nodup _ _)).mpr fun x => ?_
    rw [ddI_mem, rg_mem0]
    unfold rndI
    rw [List.mem_map]
    constructor
    · rintro ⟨y, hy, rfl⟩
      exact mod_lt h1
    · rintro ⟨h0, h2⟩
      have : x ∈ ns.map (rfI ts.length lo) := p.rf.mem_iff.mpr (rg_mem0.mpr (by omega))
      obtain ⟨y, hy, e⟩ := List.mem_map.mp this
      exact ⟨y, hy, by rw [e]; exact Int.emod_eq_of_lt h0 h2⟩
  rw [hp.length_eq, rg_len, p.nn]; omega
theorem Ptd.sums (p : Ptd n ts ns lo) : (sumsR ts (rndI ts.length lo ns)).Perm (rgI 0 (ts.length : Int)) := by
  have h1 := p.t1
  have hln := p.ln
  have hlo := p.lo0
  have e : sumsR ts (rndI ts.length lo ns) = (steps ns ts).map fun s => (lo + 1 + (ts.length : Int) - s) % (ts.length : Int) := by
    unfold sumsR steps
    rw [List.map_map]
    refine List.map_congr_left fun t ht => ?_
    have hlt := p.lt t ht
    have hc := p.cut t ht
    unfold rndI
    simp only [Function.comp]
    rw [getD_map (by omega), getD_map (by omega), ← Int.add_emod]
    congr 1
    unfold rfI absI
    (repeat' split) <;> omega
  rw [e]
  refine perm_of ?_ ?_ (by rw [List.length_map, steps_len, rg_len]; omega)
  · unfold List.Nodup
    rw [List.pairwise_map]
    refine List.Pairwise.imp_of_mem (fun {a b} ha hb hab h => hab ?_) (p.sp.nodup_iff.mpr (rg_nodup _ _))
    have ha' := rg_mem0.mp (p.sp.mem_iff.mp ha)
    have hb' := rg_mem0.mp (p.sp.mem_iff.mp hb)
    have hd := Int.emod_emod_of_dvd
    have h2 : ((ts.length : Int)) ∣ (lo + 1 + (ts.length : Int) - a) - (lo + 1 + (ts.length : Int) - b) := Int.dvd_of_emod_eq_zero (Int.emod_eq_emod_iff_emod_sub_eq_zero.mp h)
    obtain ⟨k, hk⟩ := h2
    have h3 : b - a = (ts.length : Int) * k := by omega
    have hk0 : k = 0 := by
      rcases Int.lt_trichotomy k 0 with q | q | q
      · have : (ts.length : Int) * k ≤ (ts.length : Int) * (-1) := Int.mul_le_mul_of_nonneg_left (by omega) (by omega)
        omega
      · exact q
      · have : (ts.length : Int) * 1 ≤ (ts.length : Int) * k := Int.mul_le_mul_of_nonneg_left (by omega) (by omega)
        omega
    rw [hk0] at h3
    omega
  · intro x hx
    obtain ⟨y, hy, rfl⟩ := List.mem_map.mp hx
    exact rg_mem0.mpr (mod_lt h1)
end
/-! spines -/
section
variable (legs : List Nat)
theorem tie_in {t : Nat × Nat} {K : Nat} (h : t ∈ tieS legs K) : ∃ k, k < K ∧ ((0 < k ∧ t = (k - 1, k)) ∨ ∃ i, i < legs.getD k 0 ∧ t = (k, offS legs k + i)) := by
  unfold tieS at h
  obtain ⟨k, hk, ht⟩ := List.mem_flatMap.mp h
  refine ⟨k, List.mem_range.mp hk, ?_⟩
  unfold tieK at ht
  rcases List.mem_append.mp ht with ht | ht
  · split at ht
    · simp at ht
    · exact .inl ⟨by omega, by simpa using ht⟩
  · obtain ⟨i, hi, rfl⟩ := List.mem_map.mp ht
    exact .inr ⟨i, List.mem_range.mp hi, rfl⟩
theorem spine_ptd (h1 : 1 ≤ legs.length) (h2 : 2 ≤ legs.length + legs.sum) : Ptd (legs.length + legs.sum) (tieS legs legs.length) (numS legs) (partI legs) := by
  have htl := tie_len legs legs.length
  rw [off_end] at htl
  have hc : cntS legs = ((tieS legs legs.length).length : Nat) := by unfold cntS; omega
  have hd := d_end legs h1
  refine ⟨num_len legs, by omega, by omega, ?_, ?_, ?_, ?_⟩
  · rw [← hc]; exact num_all legs h1
  · rw [steps_down legs h1 _ (Nat.le_refl _), hc]
    exact (down_rg _ _).trans (by rw [show ((tieS legs legs.length).length : Int) - ((tieS legs legs.length).length : Nat) + 1 = 1 by omega])
  · intro t ht
    unfold partI
    obtain ⟨k, hk, ⟨h0, rfl⟩ | ⟨i, hi, rfl⟩⟩ := tie_in legs ht
    · have e1 := num_sp legs (u := k - 1) (by omega)
      have e2 := num_sp legs hk
      simp only [e1, e2]
      have a1 := lo_mono legs (show k - 1 ≤ legs.length by omega)
      have a2 := hi_mono legs (show k - 1 ≤ legs.length by omega)
      have a3 := lo_mono legs (show k ≤ legs.length by omega)
      have a4 := hi_mono legs (show k ≤ legs.length by omega)
      unfold spV
      by_cases q : k % 2 = 1
      · rw [if_neg (by omega), if_pos q]; omega
      · rw [if_pos (by omega), if_neg q]; omega
    · have e1 := num_sp legs hk
      have e2 := num_lf legs hk hi
      simp only [e1, e2]
      have a3 := lo_mono legs (show k + 1 ≤ legs.length by omega)
      have a4 := hi_mono legs (show k + 1 ≤ legs.length by omega)
      have b3 := lo_mono legs (show k ≤ legs.length by omega)
      have b4 := hi_mono legs (show k ≤ legs.length by omega)
      have hex : legs.getD k 0 ≤ exS legs k := by unfold exS; split <;> omega
      rw [loS] at a3
      rw [hiS] at a4
      unfold spV lfV
      by_cases q : k % 2 = 1
      · rw [if_pos q] at a3 a4
        rw [if_pos q, if_pos q]; omega
      · rw [if_neg q] at a3 a4
        rw [if_neg q, if_neg q]; omega
  · intro t ht
    obtain ⟨k, hk, ⟨h0, rfl⟩ | ⟨i, hi, rfl⟩⟩ := tie_in legs ht
    · simp; omega
    · have := off_sum legs (k + 1) (by omega)
      have := take_le legs (k + 1)
      rw [offS] at *
      simp; omega
end
end TN
namespace TN
open PySem PySem.Spec PyProof.Rows L2
theorem lg_snoc (L : List Nat) (x : Nat) : lg L ++ [.int (x : Nat)] = lg (L ++ [x]) := by simp [lg]
end TN
namespace TN
open PySem PySem.Spec PyProof.Rows L2
/-! ### displays of dicts -/
section
variable {X : Cx}
section
variable {K : PySem.W.Frag} {L : L2.St} {B G H : Hp} {σ : L2.St} {ρ : Rho} {p : Addr} {o : HO}
end
end
end TN
namespace TN
open PySem PySem.Spec PyProof.Rows L2
/-! ### d.get(k, z) -/
section
variable {X : Cx}
end
/-! ### constants of the module: dicts of texts and ints -/
structure KC (K : PySem.W.Frag) (w : World) (mg : Str → Option Value) (x : Str) (es : List (Str × Int)) : Prop where
  glo : mg x = some (.ref (He.ga K x))
  kd : ∃ arr n, KDict K w (He.ga K x) arr n
  there : ∀ q ∈ es, ∃ u, PySem.W.nsIn K (He.ga K x) q.1 = some (some u) ∧ L2.RelV (.int q.2) u
  no : ∀ z, (∀ q ∈ es, q.1 ≠ z) → PySem.W.nsIn K (He.ga K x) z = some none
def opInC (es : List (Str × Int)) : D → Option Pl
  | .str z => some (.val (.bool (es.any fun q => decide (q.1 = z))))
  | _ => none
def opIxC (es : List (Str × Int)) : D → Option Pl
  | .str z => (es.find? fun q => decide (q.1 = z)).map fun q => .val (.int q.2)
  | _ => none
section
variable {X : Cx} {x : Str} {es : List (Str × Int)} {e : Expr} {c : CE} {pos p : Pos}
theorem vw_str {K : PySem.W.Frag} {G H : Hp} {v : V} {z : Str} (h : Vw K G H v (.str z)) : v = .str z := by
  rcases h with h | ⟨a, _, h⟩
  · cases h; rfl
  · cases h
theorem sx_inC (C : KC X.K X.w X.mg x es) (hg : Gl X x) (ha : SX X e c) (hm : behindInMarks .In (.Name x p) = false := by first | exact nomark _ | with_unfolding_all rfl) (hd : (x == ("__debug__" : Str)) = false := by decide) : SX X (.Compare e [.In] [.Name x p] pos) (cUn (opInC es) c) := fun W tk => by
  obtain ⟨arr, n, D⟩ := C.kd
  refine PEimp (pe_cmpR (op_in_kd D) (ha W tk) (pe_glob (v := .ref (He.ga X.K x)) hg C.glo rfl hd) hm) ?_
  rintro σ H Q ⟨L, ρ, G, B, rel, h⟩
  refine ⟨L, ρ, G, B, rel, (Got.bind h).mono ?_⟩
  rintro y H1 ⟨p, ρ1, G1, _, rel1, _, fx1, h1⟩
  cases e1 : look p ρ1 with
  | none => simp only [e1] at h1; exact h1.elim
  | some dx =>
    simp only [e1] at h1
    cases dx with
    | str z =>
      have hy := vw_str (fx1.look rel1 e1)
      subst hy
      have h2 : GotP X L W σ G1 B (.ok (.val (.bool (es.any fun q => decide (q.1 = z)))) ρ1) Q := h1
      cases hb : es.any fun q => decide (q.1 = z) with
      | true =>
        obtain ⟨q, hq, hz⟩ := List.any_eq_true.mp hb
        have hz := of_decide_eq_true hz
        subst hz
        obtain ⟨u, hu, _⟩ := C.there q hq
        rw [hb] at h2
        exact ⟨q.1, some u, rfl, rfl, hu, h2 (.bl true) H1 G1 rel1 .refl (.bl true)⟩
      | false =>
        have hno : ∀ q ∈ es, q.1 ≠ z := fun q hq hz => by
          have := List.any_eq_false.mp hb q hq
          exact this (decide_eq_true hz)
        rw [hb] at h2
        exact ⟨z, none, rfl, rfl, C.no z hno, h2 (.bl false) H1 G1 rel1 .refl (.bl false)⟩
    | _ => exact h1.elim
theorem sx_ixC (C : KC X.K X.w X.mg x es) (hg : Gl X x) (ha : SX X e c) (hs : PlainIx e := by exact fun _ _ => rfl) (hd : (x == ("__debug__" : Str)) = false := by decide) : SX X (.Subscript (.Name x p) e pos) (cUn (opIxC es) c) := fun W tk => by
  obtain ⟨arr, n, D⟩ := C.kd
  refine PEimp (pe_ix ix_kdict (pe_glob (v := .ref (He.ga X.K x)) hg C.glo rfl hd) (ha W tk) hs) ?_
  rintro σ H Q ⟨L, ρ, G, B, rel, h⟩
  refine ⟨L, ρ, G, B, rel, (Got.bind h).mono ?_⟩
  rintro y H1 ⟨p, ρ1, G1, _, rel1, _, fx1, h1⟩
  cases e1 : look p ρ1 with
  | none => simp only [e1] at h1; exact h1.elim
  | some dx =>
    simp only [e1] at h1
    cases dx with
    | str z =>
      have hy := vw_str (fx1.look rel1 e1)
      subst hy
      cases hf : es.find? fun q => decide (q.1 = z) with
      | none =>
        exfalso
        have h2 : GotP X L W σ G1 B (R.ofOpt (((es.find? fun q => decide (q.1 = z))).map fun q => Pl.val (.int q.2)) ρ1) Q := h1
        rw [hf] at h2; exact h2
      | some q =>
        have h2 : GotP X L W σ G1 B (R.ofOpt (((es.find? fun q => decide (q.1 = z))).map fun q => Pl.val (.int q.2)) ρ1) Q := h1
        rw [hf] at h2
        have hz : q.1 = z := of_decide_eq_true (List.find?_some (p := fun q : Str × Int => decide (q.1 = z)) hf)
        subst hz
        obtain ⟨u, hu, hr⟩ := C.there q (List.mem_of_find?_eq_some hf)
        exact ⟨He.ga X.K x, q.1, .int q.2, rfl, rfl, ⟨arr, n, u, D.at_, D.lit, hu, hr⟩, h2 (.int q.2) H1 G1 rel1 .refl (.int q.2)⟩
    | _ => exact h1.elim
end
theorem find_none {P : Params} {z : Str} : ∀ {l : List DictEntry} {ks : List Str}, l.map He.keyOf = He.keysIn P ks → (∀ k ∈ ks, k ≠ z) → l.find? (fun x => x.key.isStr z) = none ∧ l.any (fun x => x.refKey) = false
  | [], ks, h, _ => ⟨rfl, rfl⟩
  | e :: l, [], h, _ => by simp [He.keysIn] at h
  | e :: l, k :: ks, h, hk => by
    simp only [He.keysIn, List.map_cons, List.cons.injEq] at h
    obtain ⟨h1, h2⟩ := h
    obtain ⟨i1, i2⟩ := find_none (l := l) (ks := ks) h2 fun k' hk' => hk k' (List.mem_cons_of_mem _ hk')
    obtain ⟨hs, ky, vl⟩ := e
    have hkz := hk k (List.mem_cons_self ..)
    unfold He.keyOf at h1
    cases ky <;> simp only [Option.some.injEq, Prod.mk.injEq] at h1 <;> try (cases h1; done)
    rename_i s tok
    obtain ⟨rfl, _⟩ := h1
    refine ⟨?_, ?_⟩
    · rw [List.find?_cons_of_neg, i1]
      show ¬ (s == z) = true
      simpa using hkz
    · rw [List.any_cons, i2]; rfl
theorem kc_of {K : PySem.W.Frag} {w : World} {mg : Str → Option Value} {h : Heap} {ts : List Tb} {x : Str} {es : List (Str × Int)} (X : K.In h) (G : h.Ns mainGlobals mg) (e : tabObs ts K = tabVal ts w) (ht : (x, es) ∈ ts) : KC K w mg x es := by
  have e1 := congrArg Prod.fst e
  have e2 := congrArg Prod.snd e
  simp only [tabObs, tabVal] at e1 e2
  have hd : He.dicW K (He.ga K x) = some (He.keysIn w.params (es.map (·.1))) := by
    have := List.map_inj_left.mp e1 (x, es) ht
    exact this
  have hb := List.all_eq_true.mp e2 (x, es) ht
  simp only [Bool.and_eq_true] at hb
  refine ⟨He.glo_ok X G hb.1, He.dicW_ok hd, fun q hq => ?_, fun z hz => ?_⟩
  · exact He.valsB_ok hb.2 (q := (q.1, He.Dv.int q.2)) (List.mem_map.mpr ⟨q, hq, rfl⟩)
  · unfold He.dicW at hd
    unfold PySem.W.nsIn
    split at hd
    · rename_i c arr ep sl hl
      rw [hl]
      split at hd
      · simp only [Option.some.injEq] at hd
        obtain ⟨h1, h2⟩ := find_none (z := z) hd fun k hk => by
          obtain ⟨q, hq, rfl⟩ := List.mem_map.mp hk
          exact hz q hq
        simp only [h1, h2]
        rfl
      · cases hd
    · cases hd
/-! ### the head, with these -/
theorem obsZ_eq {n : Nat} {fa : List He.Fa} {fn : List He.DefD} {cs : List Str} {rs : List (Str × List Str)} {ts : List Tb} {g : Addr → Option Obj} {s : Shared} (h : ∀ a, g a = s.heap.get? a) : obsZ n fa fn cs rs ts g = (hookZ n fa fn cs rs ts).obs s := by
  have e : g = s.heap.get? := funext h
  rw [e] <;> rfl
theorem law_endZ {l : PySem.W.OpenLaw} {k m : Nat} {fa : List He.Fa} {fn : List He.DefD} {cs : List Str} {rs : List (Str × List Str)} {ts : List Tb} {q : Program} {loose : List Str} {XP : (Str → Option Value) → Heap → Prop} {d : DefRec} {x : Str} {M : FM}
    (hn : l.most = some 63) (hdf : d.params.defaults = []) (hd : d.name = ("law" : Str)) (hr : Room k callerA)
    (F : ∀ (w : World) (K : PySem.W.Frag) (mg : Str → Option Value) (f : Addr) (h : Heap), K.In h → h.Ns mainGlobals mg → mg "law" = some (.ref f) → He.SaysD fa fn K → exAll cs K = true → oxAll rs K = true → tabObs ts K = tabVal ts w →
      ∃ fd : FuncData, (∀ (s : Shared) (u : Value), BindsTo s fd ⟨[u], []⟩ [(x, u)]) ∧ ∀ base : Heap, K.In base → base.Ns mainGlobals mg → FnOk l.prog w K mg base (L2.CX l.prog w) k f fd [x] (spF K mg 1 M))
    (hM : ∀ ns : List Int, ns.length ≤ 63 → ∃ outs, M [(.list (ns.map PyData.int), .fz)] = .ok (.bool true) false outs) :
    PySem.W.WalkO q loose XP (hookZ m fa fn cs rs ts).says l.row.toRowW d [] (fun f vs => PySem.call f vs) := by
  refine Att.attach_call hn hdf fun w s₀ s₁ mg mb fa o pm cd doc a vs ns G Y ho hd' hcd hmg hobj hints hlen hg => ?_
  obtain ⟨K, KX, nl, c, cx, co, ct⟩ := Y
  rw [hd] at hmg
  obtain ⟨fd, hb, hF⟩ := F w K mg fa _ KX G.T.g hmg c cx co ct
  exact law_call KX G.T.g G.T.b G.T.builtins G.T.nolimit hg hobj hints (Nat.le_trans hlen (by decide)) hr hF hb (fun H hO hS => sp_law hM H a ns hlen (nl.rd hS)) fun H e s' => no_exc H s₁ e s'
end TN
namespace TN
open PySem PySem.Spec PyProof.Rows L2
/-! ### ties in order -/
/-! ### kinds -/
inductive Kd where
  | spine (legs : List Nat) | ring (n : Nat) | sides (a b : Nat) | full (n : Nat) | wheel (n : Nat) | fan (n : Nat)
def kdD : Kd → D
  | .spine legs => .tuple [.str "spine", .tuple (lg legs)]
  | .ring n => .tuple [.str "ring", .int (n : Nat)]
  | .sides a b => .tuple [.str "sides", .int (a : Nat), .int (b : Nat)]
  | .full n => .tuple [.str "full", .int (n : Nat)]
  | .wheel n => .tuple [.str "wheel", .int (n : Nat)]
  | .fan n => .tuple [.str "fan", .int (n : Nat)]
def kdN : Kd → Nat
  | .spine legs => legs.length + legs.sum
  | .ring n => n
  | .sides a b => a + b
  | .full n => n
  | .wheel n => n + 1
  | .fan n => n + 1
def rowT (a b : Nat) : List (Nat × Nat) := (List.range (b - a)).map fun i => (a + i, a + i + 1)
def spinT (legs : List Nat) (K : Nat) : List (Nat × Nat) := (List.range K).flatMap fun k => (List.range (legs.getD k 0)).map fun i => (k, offS legs k + i)
def fullT (n K : Nat) : List (Nat × Nat) := (List.range K).flatMap fun i => (List.range (n - (i + 1))).map fun j => (i, i + 1 + j)
def sidT (a b K : Nat) : List (Nat × Nat) := (List.range K).flatMap fun i => (List.range b).map fun j => (i, a + j)
/-- in the order in which the package makes them -/
def kdT : Kd → List (Nat × Nat)
  | .spine legs => rowT 0 (legs.length - 1) ++ spinT legs legs.length
  | .ring n => rowT 0 (n - 1) ++ [(0, n - 1)]
  | .sides a b => sidT a b a
  | .full n => fullT n n
  | .wheel n => (List.range n).map (fun i => (0, 1 + i)) ++ rowT 1 n ++ [(1, n)]
  | .fan n => (List.range n).map (fun i => (0, 1 + i)) ++ rowT 1 n
/-- a kind -/
def KdOk : Kd → Prop
  | .spine legs => 1 ≤ legs.length ∧ legs.length + legs.sum ≤ 40
  | .ring n => 3 ≤ n ∧ n ≤ 40
  | .sides a b => 1 ≤ a ∧ 1 ≤ b ∧ a + b ≤ 40 ∧ a * b ≤ 60
  | .full n => 1 ≤ n ∧ n ≤ 11
  | .wheel n => 3 ≤ n ∧ n ≤ 30
  | .fan n => 1 ≤ n ∧ n ≤ 30
theorem mem_row {a b : Nat} {t : Nat × Nat} : t ∈ rowT a b ↔ a ≤ t.1 ∧ t.1 < b ∧ t.2 = t.1 + 1 := by
  unfold rowT
  rw [List.mem_map]
  constructor
  · rintro ⟨i, hi, rfl⟩
    have := List.mem_range.mp hi
    simp; omega
  · rintro ⟨h1, h2, h3⟩
    refine ⟨t.1 - a, List.mem_range.mpr (by omega), ?_⟩
    obtain ⟨x, y⟩ := t
    simp at *; omega
theorem nd_row (a b : Nat) : (rowT a b).Nodup := by
  unfold rowT List.Nodup
  rw [List.pairwise_map]
  refine List.Pairwise.imp (fun {x y} h e => h ?_) List.nodup_range
  simp at e; omega
theorem mem_spin {legs : List Nat} {K : Nat} {t : Nat × Nat} : t ∈ spinT legs K ↔ ∃ k i, k < K ∧ i < legs.getD k 0 ∧ t = (k, offS legs k + i) := by
  unfold spinT
  rw [List.mem_flatMap]
  constructor
  · rintro ⟨k, hk, ht⟩
    obtain ⟨i, hi, rfl⟩ := List.mem_map.mp ht
    exact ⟨k, i, List.mem_range.mp hk, List.mem_range.mp hi, rfl⟩
  · rintro ⟨k, i, hk, hi, rfl⟩
    exact ⟨k, List.mem_range.mpr hk, List.mem_map.mpr ⟨i, List.mem_range.mpr hi, rfl⟩⟩
theorem nd_flat {α : Type} {f : Nat → List (Nat × Nat)} (h1 : ∀ k t, t ∈ f k → t.1 = k) (h2 : ∀ k, (f k).Nodup) (K : Nat) : ((List.range K).flatMap f).Nodup := by
  induction K with
  | zero => simp
  | succ K ih =>
    rw [List.range_succ, List.flatMap_append]
    refine List.nodup_append.mpr ⟨ih, by simpa using h2 K, fun a ha b hb e => ?_⟩
    obtain ⟨k, hk, hak⟩ := List.mem_flatMap.mp ha
    have hb' : b ∈ f K := by simpa using hb
    have := List.mem_range.mp hk
    have e1 := h1 k a hak
    have e2 := h1 K b hb'
    rw [e] at e1; omega
theorem nd_mapr {n : Nat} {f : Nat → Nat × Nat} (h : ∀ x y, f x = f y → x = y) : ((List.range n).map f).Nodup := by
  unfold List.Nodup
  rw [List.pairwise_map]
  exact List.Pairwise.imp (fun {x y} hxy e => hxy (h x y e)) List.nodup_range
theorem nd_spin (legs : List Nat) (K : Nat) : (spinT legs K).Nodup := by
  refine nd_flat (α := Nat) (fun k t ht => ?_) (fun k => nd_mapr fun x y e => ?_) K
  · obtain ⟨i, _, rfl⟩ := List.mem_map.mp ht; rfl
  · simp at e; omega
theorem mem_full {n K : Nat} {t : Nat × Nat} : t ∈ fullT n K ↔ t.1 < K ∧ t.1 < t.2 ∧ t.2 < n := by
  unfold fullT
  rw [List.mem_flatMap]
  constructor
  · rintro ⟨k, hk, ht⟩
    obtain ⟨i, hi, rfl⟩ := List.mem_map.mp ht
    have := List.mem_range.mp hk
    have := List.mem_range.mp hi
    simp; omega
  · rintro ⟨h1, h2, h3⟩
    refine ⟨t.1, List.mem_range.mpr h1, List.mem_map.mpr ⟨t.2 - (t.1 + 1), List.mem_range.mpr (by omega), ?_⟩⟩
    obtain ⟨x, y⟩ := t
    simp at *; omega
theorem nd_full (n K : Nat) : (fullT n K).Nodup := by
  refine nd_flat (α := Nat) (fun k t ht => ?_) (fun k => nd_mapr fun x y e => ?_) K
  · obtain ⟨i, _, rfl⟩ := List.mem_map.mp ht; rfl
  · simp at e; omega
theorem mem_sid {a b K : Nat} {t : Nat × Nat} : t ∈ sidT a b K ↔ t.1 < K ∧ a ≤ t.2 ∧ t.2 < a + b := by
  unfold sidT
  rw [List.mem_flatMap]
  constructor
  · rintro ⟨k, hk, ht⟩
    obtain ⟨i, hi, rfl⟩ := List.mem_map.mp ht
    have := List.mem_range.mp hk
    have := List.mem_range.mp hi
    simp; omega
  · rintro ⟨h1, h2, h3⟩
    refine ⟨t.1, List.mem_range.mpr h1, List.mem_map.mpr ⟨t.2 - a, List.mem_range.mpr (by omega), ?_⟩⟩
    obtain ⟨x, y⟩ := t
    simp at *; omega
theorem nd_sid (a b K : Nat) : (sidT a b K).Nodup := by
  refine nd_flat (α := Nat) (fun k t ht => ?_) (fun k => nd_mapr fun x y e => ?_) K
  · obtain ⟨i, _, rfl⟩ := List.mem_map.mp ht; rfl
  · simp at e; omega
theorem mem_hub {n : Nat} {t : Nat × Nat} : t ∈ (List.range n).map (fun i => (0, 1 + i)) ↔ t.1 = 0 ∧ 1 ≤ t.2 ∧ t.2 ≤ n := by
  rw [List.mem_map]
  constructor
  · rintro ⟨i, hi, rfl⟩
    have := List.mem_range.mp hi
    simp; omega
  · rintro ⟨h1, h2, h3⟩
    refine ⟨t.2 - 1, List.mem_range.mpr (by omega), ?_⟩
    obtain ⟨x, y⟩ := t
    simp at *; omega
theorem flatT_len {f : Nat → List (Nat × Nat)} (K : Nat) : ((List.range K).flatMap f).length = ((List.range K).map fun k => (f k).length).sum := by
  induction K with
  | zero => rfl
  | succ K ih => rw [List.range_succ, List.flatMap_append, List.length_append, List.map_append, List.sum_append, ih]; simp
theorem sid_len (a b K : Nat) : (sidT a b K).length = K * b := by
  unfold sidT
  rw [flatT_len]
  induction K with
  | zero => simp
  | succ K ih => rw [List.range_succ, List.map_append, List.sum_append, ih, Nat.succ_mul]; simp
theorem spin_len (legs : List Nat) (K : Nat) : (spinT legs K).length + legs.length = offS legs K := by
  induction K with
  | zero => simp [spinT, offS]
  | succ K ih =>
    have e : spinT legs (K + 1) = spinT legs K ++ (List.range (legs.getD K 0)).map fun i => (K, offS legs K + i) := by
      unfold spinT; rw [List.range_succ, List.flatMap_append]; simp
    rw [e, List.length_append, offS]; simp; omega
theorem row_len (a b : Nat) : (rowT a b).length = b - a := by simp [rowT]
theorem full_len : ∀ n, n ≤ 11 → (fullT n n).length ≤ 60 := by decide
/-- what a kind's ties are -/
structure KdW (n : Nat) (T : List (Nat × Nat)) : Prop where
  n1 : 1 ≤ n
  n40 : n ≤ 40
  t60 : T.length ≤ 60
  nd : T.Nodup
  lt : ∀ t ∈ T, t.1 < t.2 ∧ t.2 < n
theorem kd_web : ∀ {k : Kd}, KdOk k → KdW (kdN k) (kdT k)
  | .spine legs, ⟨h1, h2⟩ => by
    have hl := spin_len legs legs.length
    rw [off_end] at hl
    refine ⟨by simp [kdN]; omega, h2, ?_, ?_, ?_⟩
    · simp only [kdT, List.length_append, row_len]; omega
    · refine List.nodup_append.mpr ⟨nd_row _ _, nd_spin _ _, fun a ha b hb e => ?_⟩
      subst e
      have h3 := mem_row.mp ha
      obtain ⟨k, i, hk, hi, rfl⟩ := mem_spin.mp hb
      have := off_ge legs k
      simp at h3; omega
    · intro t ht
      rcases List.mem_append.mp ht with ht | ht
      · have := mem_row.mp ht
        simp only [kdN]; omega
      · obtain ⟨k, i, hk, hi, rfl⟩ := mem_spin.mp ht
        have h3 := off_sum legs (k + 1) (by omega)
        have h4 := take_le legs (k + 1)
        have h5 := off_ge legs k
        rw [offS] at h3
        simp only [kdN]; omega
  | .ring n, ⟨h1, h2⟩ => by
    refine ⟨by simp [kdN]; omega, h2, ?_, ?_, ?_⟩
    · simp [kdT, row_len]; omega
    · refine List.nodup_append.mpr ⟨nd_row _ _, by simp, fun a ha b hb e => ?_⟩
      subst e
      have h3 := mem_row.mp ha
      rw [List.mem_singleton.mp hb] at h3
      simp at h3; omega
    · intro t ht
      rcases List.mem_append.mp ht with ht | ht
      · have := mem_row.mp ht
        simp only [kdN]; omega
      · rw [List.mem_singleton.mp ht]; simp only [kdN]; omega
  | .sides a b, ⟨h1, h2, h3, h4⟩ => by
    refine ⟨by simp [kdN]; omega, h3, by simp only [kdT, sid_len]; exact h4, nd_sid _ _ _, fun t ht => ?_⟩
    have := mem_sid.mp ht
    simp only [kdN]; omega
  | .full n, ⟨h1, h2⟩ => by
    refine ⟨h1, by simp [kdN]; omega, full_len n h2, nd_full _ _, fun t ht => ?_⟩
    have := mem_full.mp ht
    simp only [kdN]; omega
  | .wheel n, ⟨h1, h2⟩ => by
    refine ⟨by simp [kdN], by simp [kdN]; omega, by simp [kdT, row_len]; omega, ?_, ?_⟩
    · refine List.nodup_append.mpr ⟨List.nodup_append.mpr ⟨nd_mapr fun x y e => ?_, nd_row _ _, fun a ha b hb e => ?_⟩, by simp, fun a ha b hb e => ?_⟩
      · simp at e; omega
      · subst e
        have h3 := mem_hub.mp ha
        have h4 := mem_row.mp hb
        omega
      · subst e
        rw [List.mem_singleton.mp hb] at ha
        rcases List.mem_append.mp ha with ha | ha
        · have := mem_hub.mp ha; simp at this
        · have := mem_row.mp ha; simp at this; omega
    · intro t ht
      rcases List.mem_append.mp ht with ht | ht
      · rcases List.mem_append.mp ht with ht | ht
        · have := mem_hub.mp ht; simp only [kdN]; omega
        · have := mem_row.mp ht; simp only [kdN]; omega
      · rw [List.mem_singleton.mp ht]; simp only [kdN]; omega
  | .fan n, ⟨h1, h2⟩ => by
    refine ⟨by simp [kdN], by simp [kdN]; omega, by simp [kdT, row_len]; omega, ?_, ?_⟩
    · refine List.nodup_append.mpr ⟨nd_mapr fun x y e => ?_, nd_row _ _, fun a ha b hb e => ?_⟩
      · simp at e; omega
      · subst e
        have h3 := mem_hub.mp ha
        have h4 := mem_row.mp hb
        omega
    · intro t ht
      rcases List.mem_append.mp ht with ht | ht
      · have := mem_hub.mp ht; simp only [kdN]; omega
      · have := mem_row.mp ht; simp only [kdN]; omega
/-- the web of a kind, as data -/
def kdWeb (k : Kd) : D := webD (kdN k) (sortT (kdT k))
theorem KdW.ok {n : Nat} {T : List (Nat × Nat)} (h : KdW n T) : WebOk n (sortT T) := by
  have h1 := h.n1
  have h2 := h.n40
  have h3 := h.t60
  exact wok_sort h1 (by omega) (by omega) fun t ht => by have := h.lt t ht; omega
end TN
namespace TN
open PySem PySem.Spec PyProof.Rows L2
abbrev ee_legs_good_1 : CE := (cAndV (cCall MMWhole (cCons (cVar 1) cNil)) (cChain opLe opLe (cLit (.int 0)) (cVar 1) (cLit (.int 40))))
abbrev cc_legs_good : CS := (cSeq (cIf (cOr (cNot (cTst (cUn (opIsi "tuple") (cVar 0)))) (cOr (cTst (cBin opLt (cFn fLen (cCons (cVar 0) cNil)) (cLit (.int 1)))) (cTst (cBin opGt (cFn fLen (cCons (cVar 0) cNil)) (cLit (.int 40))))))
  (cRet (cLit (.bool false)))
  cSkip)
  (cSeq (cIf (cNot (cTst (cFn fAll (cCons (cComp (cIt (cVar 0)) (gNm 1) tTrue ee_legs_good_1 [1]) cNil))))
  (cRet (cLit (.bool false)))
  cSkip)
  (cRet (cBin opLe (cBin opAdd (cFn fLen (cCons (cVar 0) cNil)) (cFn fSum (cCons (cVar 0) cNil))) (cLit (.int 40))))))
def MM_legs_good : FM := mkF 1 2 cc_legs_good
theorem in_legs_good {x0 : D} {m0 : Md} {T : D → Bool → List Slot → Prop} {E : Xc → List Slot → Prop} (h : gS (cc_legs_good [some (x0, m0), none]) (fun ρ => T .none false (ρ.take 1)) (fun d fr ρ => T d fr (ρ.take 1)) (fun x ρ => E x (ρ.take 1))) : gF (MM_legs_good [(x0, m0)]) T E := gF_mk rfl h
abbrev ee_kind_form_1 : CE := (cAndV (cCall MMWhole (cCons (cVar 1) cNil)) (cChain opLe opLe (cLit (.int 1)) (cVar 1) (cLit (.int 40))))
abbrev cc_kind_form : CS := (cSeq (cIf (cOr (cNot (cTst (cUn (opIsi "tuple") (cVar 0)))) (cOr (cTst (cBin opLt (cFn fLen (cCons (cVar 0) cNil)) (cLit (.int 2)))) (cNot (cTst (cUn (opIsi "str") (cBin opIx (cVar 0) (cLit (.int 0))))))))
  (cRet (cLit (.bool false)))
  cSkip)
  (cSeq (cIf (cTst (cBin opEq (cBin opIx (cVar 0) (cLit (.int 0))) (cLit (.str "spine"))))
  (cRet (cAndV (cBin opEq (cFn fLen (cCons (cVar 0) cNil)) (cLit (.int 2))) (cCall MM_legs_good (cCons (cBin opIx (cVar 0) (cLit (.int 1))) cNil))))
  cSkip)
  (cSeq (cIf (cNot (cTst (cFn fAll (cCons (cComp (cIt (cSl (cVar 0) (cPart (cLit (.int 1))) cNoPart)) (gNm 1) tTrue ee_kind_form_1 [1]) cNil))))
  (cRet (cLit (.bool false)))
  cSkip)
  (cSeq (cIf (cTst (cBin opEq (cBin opIx (cVar 0) (cLit (.int 0))) (cLit (.str "sides"))))
  (cRet (cBin opEq (cFn fLen (cCons (cVar 0) cNil)) (cLit (.int 3))))
  cSkip)
  (cRet (cAndV (cUn (opInC [("ring", 3), ("full", 1), ("wheel", 3), ("fan", 1)]) (cBin opIx (cVar 0) (cLit (.int 0)))) (cAndV (cBin opEq (cFn fLen (cCons (cVar 0) cNil)) (cLit (.int 2))) (cBin opGe (cBin opIx (cVar 0) (cLit (.int 1))) (cUn (opIxC [("ring", 3), ("full", 1), ("wheel", 3), ("fan", 1)]) (cBin opIx (cVar 0) (cLit (.int 0))))))))))))
def MM_kind_form : FM := mkF 1 2 cc_kind_form
theorem in_kind_form {x0 : D} {m0 : Md} {T : D → Bool → List Slot → Prop} {E : Xc → List Slot → Prop} (h : gS (cc_kind_form [some (x0, m0), none]) (fun ρ => T .none false (ρ.take 1)) (fun d fr ρ => T d fr (ρ.take 1)) (fun x ρ => E x (ρ.take 1))) : gF (MM_kind_form [(x0, m0)]) T E := gF_mk rfl h
abbrev ee_spine_ties_1 : CE := (cTup (cCons (cVar 3) (cCons (cBin opAdd (cVar 3) (cLit (.int 1))) cNil)))
abbrev ee_spine_ties_2 : CE := (cTup (cCons (cVar 3) (cCons (cBin opAdd (cVar 1) (cVar 5)) cNil)))
abbrev bb_spine_ties_3 : CS := (cSeq (cDrop (cMutL 2 fExtend (cCons (cComp (cRng1 (cVar 4)) (gNm 5) tTrue ee_spine_ties_2 [5]) cNil)))
  (cSet 1 (cBin opAdd (cVar 1) (cVar 4))))
abbrev cc_spine_ties : CS := (cSeq (cSet 1 (cFn fLen (cCons (cVar 0) cNil)))
  (cSeq (cSet 2 (cComp (cRng1 (cBin opSub (cVar 1) (cLit (.int 1)))) (gNm 3) tTrue ee_spine_ties_1 [3]))
  (cSeq (cFor (cEnum (cVar 0)) (gTp 2 (gsCons (gNm 3) (gsCons (gNm 4) gsNil)))
  bb_spine_ties_3)
  (cRet (cTup (cCons (cVar 1) (cCons (cVar 2) cNil)))))))
def MM_spine_ties : FM := mkF 1 6 cc_spine_ties
theorem in_spine_ties {x0 : D} {m0 : Md} {T : D → Bool → List Slot → Prop} {E : Xc → List Slot → Prop} (h : gS (cc_spine_ties [some (x0, m0), none, none, none, none, none]) (fun ρ => T .none false (ρ.take 1)) (fun d fr ρ => T d fr (ρ.take 1)) (fun x ρ => E x (ρ.take 1))) : gF (MM_spine_ties [(x0, m0)]) T E := gF_mk rfl h
abbrev ee_row_ties_1 : CE := (cTup (cCons (cVar 2) (cCons (cBin opAdd (cVar 2) (cLit (.int 1))) cNil)))
abbrev cc_row_ties : CS := (cRet (cComp (cRng2 (cVar 0) (cVar 1)) (gNm 2) tTrue ee_row_ties_1 [2]))
def MM_row_ties : FM := mkF 2 3 cc_row_ties
theorem in_row_ties {x0 x1 : D} {m0 m1 : Md} {T : D → Bool → List Slot → Prop} {E : Xc → List Slot → Prop} (h : gS (cc_row_ties [some (x0, m0), some (x1, m1), none]) (fun ρ => T .none false (ρ.take 2)) (fun d fr ρ => T d fr (ρ.take 2)) (fun x ρ => E x (ρ.take 2))) : gF (MM_row_ties [(x0, m0), (x1, m1)]) T E := gF_mk rfl h
abbrev ee_kind_ties_1 : CE := (cTup (cCons (cVar 3) (cCons (cVar 5) cNil)))
abbrev bb_kind_ties_2 : CS := (cDrop (cMutL 2 fExtend (cCons (cComp (cRng2 (cBin opAdd (cVar 3) (cLit (.int 1))) (cVar 1)) (gNm 5) tTrue ee_kind_ties_1 [5]) cNil)))
abbrev ee_kind_ties_3 : CE := (cTup (cCons (cVar 3) (cCons (cBin opAdd (cVar 1) (cVar 5)) cNil)))
abbrev bb_kind_ties_4 : CS := (cDrop (cMutL 2 fExtend (cCons (cComp (cRng1 (cBin opIx (cVar 0) (cLit (.int 2)))) (gNm 5) tTrue ee_kind_ties_3 [5]) cNil)))
abbrev ee_kind_ties_5 : CE := (cTup (cCons (cLit (.int 0)) (cCons (cVar 4) cNil)))
abbrev cc_kind_ties : CS := (cSeq (cIf (cTst (cBin opEq (cBin opIx (cVar 0) (cLit (.int 0))) (cLit (.str "spine"))))
  (cRet (cCall MM_spine_ties (cCons (cBin opIx (cVar 0) (cLit (.int 1))) cNil)))
  cSkip)
  (cSeq (cSet 1 (cBin opIx (cVar 0) (cLit (.int 1))))
  (cSeq (cIf (cTst (cBin opEq (cBin opIx (cVar 0) (cLit (.int 0))) (cLit (.str "ring"))))
  (cRet (cTup (cCons (cVar 1) (cCons (cBin opAdd (cCall MM_row_ties (cCons (cLit (.int 0)) (cCons (cBin opSub (cVar 1) (cLit (.int 1))) cNil))) (cLst (cCons (cTup (cCons (cLit (.int 0)) (cCons (cBin opSub (cVar 1) (cLit (.int 1))) cNil))) cNil))) cNil))))
  cSkip)
  (cSeq (cIf (cTst (cBin opEq (cBin opIx (cVar 0) (cLit (.int 0))) (cLit (.str "full"))))
  (cSeq (cSet 2 (cLst cNil))
  (cSeq (cFor (cRng1 (cVar 1)) (gNm 3)
  bb_kind_ties_2)
  (cRet (cTup (cCons (cVar 1) (cCons (cVar 2) cNil))))))
  cSkip)
  (cSeq (cIf (cTst (cBin opEq (cBin opIx (cVar 0) (cLit (.int 0))) (cLit (.str "sides"))))
  (cSeq (cSet 2 (cLst cNil))
  (cSeq (cFor (cRng1 (cVar 1)) (gNm 3)
  bb_kind_ties_4)
  (cRet (cTup (cCons (cBin opAdd (cVar 1) (cBin opIx (cVar 0) (cLit (.int 2)))) (cCons (cVar 2) cNil))))))
  cSkip)
  (cSeq (cSet 2 (cBin opAdd (cComp (cRng2 (cLit (.int 1)) (cBin opAdd (cVar 1) (cLit (.int 1)))) (gNm 4) tTrue ee_kind_ties_5 [4]) (cCall MM_row_ties (cCons (cLit (.int 1)) (cCons (cVar 1) cNil)))))
  (cSeq (cIf (cTst (cBin opEq (cBin opIx (cVar 0) (cLit (.int 0))) (cLit (.str "wheel"))))
  (cDrop (cMutL 2 fAppend (cCons (cTup (cCons (cLit (.int 1)) (cCons (cVar 1) cNil))) cNil)))
  cSkip)
  (cRet (cTup (cCons (cBin opAdd (cVar 1) (cLit (.int 1))) (cCons (cVar 2) cNil)))))))))))
def MM_kind_ties : FM := mkF 1 6 cc_kind_ties
theorem in_kind_ties {x0 : D} {m0 : Md} {T : D → Bool → List Slot → Prop} {E : Xc → List Slot → Prop} (h : gS (cc_kind_ties [some (x0, m0), none, none, none, none, none]) (fun ρ => T .none false (ρ.take 1)) (fun d fr ρ => T d fr (ρ.take 1)) (fun x ρ => E x (ρ.take 1))) : gF (MM_kind_ties [(x0, m0)]) T E := gF_mk rfl h
abbrev cc_kind_good : CS := (cSeq (cIf (cNot (cTst (cCall MM_kind_form (cCons (cVar 0) cNil))))
  (cRet (cLit (.bool false)))
  cSkip)
  (cSeq (cUnp (gTp 2 (gsCons (gNm 1) (gsCons (gNm 2) gsNil))) (cCall MM_kind_ties (cCons (cVar 0) cNil)))
  (cRet (cAndV (cBin opLe (cVar 1) (cLit (.int 40))) (cBin opLe (cFn fLen (cCons (cVar 2) cNil)) (cLit (.int 60)))))))
def MM_kind_good : FM := mkF 1 3 cc_kind_good
theorem in_kind_good {x0 : D} {m0 : Md} {T : D → Bool → List Slot → Prop} {E : Xc → List Slot → Prop} (h : gS (cc_kind_good [some (x0, m0), none, none]) (fun ρ => T .none false (ρ.take 1)) (fun d fr ρ => T d fr (ρ.take 1)) (fun x ρ => E x (ρ.take 1))) : gF (MM_kind_good [(x0, m0)]) T E := gF_mk rfl h
abbrev cc_web_for : CS := (cSeq (cIf (cNot (cTst (cCall MM_kind_good (cCons (cVar 0) cNil))))
  (cRaise "NoKind")
  cSkip)
  (cSeq (cUnp (gTp 2 (gsCons (gNm 1) (gsCons (gNm 2) gsNil))) (cCall MM_kind_ties (cCons (cVar 0) cNil)))
  (cRet (cTup (cCons (cVar 1) (cCons (cFn fTuple (cCons (cFn fSorted (cCons (cVar 2) cNil)) cNil)) cNil))))))
def MM_web_for : FM := mkF 1 3 cc_web_for
theorem in_web_for {x0 : D} {m0 : Md} {T : D → Bool → List Slot → Prop} {E : Xc → List Slot → Prop} (h : gS (cc_web_for [some (x0, m0), none, none]) (fun ρ => T .none false (ρ.take 1)) (fun d fr ρ => T d fr (ρ.take 1)) (fun x ρ => E x (ρ.take 1))) : gF (MM_web_for [(x0, m0)]) T E := gF_mk rfl h
theorem sum_lgI (legs : List Nat) : (legs.map fun (k : Nat) => (k : Int)).sum = ((legs.sum : Nat) : Int) := by
  induction legs with
  | nil => rfl
  | cons a l ih => rw [List.map_cons, List.sum_cons, List.sum_cons, ih]; simp
theorem sum_lgT (legs : List Nat) : fSum [.tuple (lg legs)] = some (.val (.int (legs.sum : Nat))) := by
  have e : lg legs = (legs.map fun (k : Nat) => (k : Int)).map .int := by unfold lg; rw [List.map_map]; rfl
  rw [e, fSum_t, sum_lgI]
theorem fLen_lgT (legs : List Nat) : fLen [.tuple (lg legs)] = some (.val (.int (legs.length : Nat))) := by simp [fLen, lg]
theorem le_sum {x : Nat} : ∀ {l : List Nat}, x ∈ l → x ≤ l.sum
  | a :: l, h => by
    rw [List.sum_cons]
    rcases List.mem_cons.mp h with h | h
    · omega
    · have := le_sum h; omega
theorem legsg_run {legs : List Nat} (h1 : 1 ≤ legs.length) (h2 : legs.length + legs.sum ≤ 40) : (MM_legs_good [(.tuple (lg legs), .fz)]).rv = some (.bool true, false) := by
  have hfl := fLen_lgT legs
  have hsu := sum_lgT legs
  have hlg : lg legs = legs.map fun (k : Nat) => PyData.int (k : Nat) := rfl
  generalize lg legs = LD at *
  refine rv_gF (in_legs_good ?_)
  repeat' array_mem_dec
  refine cp_map legs (fun (k : Nat) => .int (k : Nat)) (fun _ => .bool true) hlg (by omega) (by (first | exact rfl | (repeat (first | exact TN.wOk_nil | ((apply TN.wOk_cons); exact rfl; (first | exact TN.okW_none | exact TN.okW_fz | exact TN.okW_jk | assumption)))))) (by (repeat (first | exact wipe_nil | apply wipe_cons | exact st0 | apply stS))) ?_ ?_
  · intro x hx
    have := le_sum hx
    repeat' (first | (apply c_rv rfl rfl (whole_run _)) | array_mem_dec)
    rw [decide_eq_true (by omega)]
    exact ⟨rfl, rfl⟩
  · repeat' array_mem_dec
    rw [decide_eq_true (by omega)]
    exact ⟨rfl, rfl⟩
theorem row_run (a b : Nat) (hb : b ≤ 100) (hab : a ≤ b) : (MM_row_ties [(.int (a : Nat), .fz), (.int (b : Nat), .fz)]).rv = some (.list ((rowT a b).map tieD), true) := by
  refine rv_gF (in_row_ties ?_)
  repeat' array_mem_dec
  refine TN.cp_rng2 (a) (b - a) (fun i => tieD (a + i, a + i + 1)) (by (first | omega | exact rfl)) (by (first | omega | exact rfl)) (by (first | omega | (simp; done) | (simp; omega))) (by (first | exact rfl | (repeat (first | exact TN.wOk_nil | ((apply TN.wOk_cons); exact rfl; (first | exact TN.okW_none | exact TN.okW_fz | exact TN.okW_jk | assumption)))))) (by (repeat (first | exact wipe_nil | apply wipe_cons | exact st0 | apply stS))) ?_ ?_
  · intro i hi
    repeat' array_mem_dec
    exact ⟨rfl, rfl⟩
  · repeat' array_mem_dec
    unfold rowT
    rw [List.map_map]
    exact ⟨rfl, rfl⟩
theorem spin_succ (legs : List Nat) (K : Nat) : spinT legs (K + 1) = spinT legs K ++ (List.range (legs.getD K 0)).map fun i => (K, offS legs K + i) := by
  unfold spinT; rw [List.range_succ, List.flatMap_append]; simp
theorem spine_run2 {legs : List Nat} (h1 : 1 ≤ legs.length) (h2 : legs.length + legs.sum ≤ 40) : (MM_spine_ties [(.tuple (lg legs), .fz)]).rv = some (.tuple [.int ((legs.length + legs.sum : Nat) : Int), .list ((rowT 0 (legs.length - 1) ++ spinT legs legs.length).map tieD)], false) := by
  have hfl := fLen_lgT legs
  have hlg : lg legs = legs.map fun (k : Nat) => PyData.int (k : Nat) := rfl
  have hrl := row_len 0 (legs.length - 1)
  generalize lg legs = LD at *
  refine rv_gF (in_spine_ties ?_)
  repeat' array_mem_dec
  refine TN.cp_rng (legs.length - 1) (fun i => tieD (0 + i, 0 + i + 1)) (by (first | omega | exact rfl)) (by (first | omega | (simp; done) | (simp; omega))) (by (first | exact rfl | (repeat (first | exact TN.wOk_nil | ((apply TN.wOk_cons); exact rfl; (first | exact TN.okW_none | exact TN.okW_fz | exact TN.okW_jk | assumption)))))) (by (repeat (first | exact wipe_nil | apply wipe_cons | exact st0 | apply stS))) ?_ ?_
  · intro i hi
    repeat' array_mem_dec
    rw [Nat.zero_add]
    exact ⟨rfl, rfl⟩
  · rw [show (List.range (legs.length - 1)).map (fun i => tieD (0 + i, 0 + i + 1)) = (rowT 0 (legs.length - 1)).map tieD by unfold rowT; rw [List.map_map]; rfl]
    repeat' array_mem_dec
    refine for_enum legs (fun (k : Nat) => .int (k : Nat)) (fun pre ρ => ∃ j3 j4, ρ = [some (.tuple LD, .fz), some (.int (offS legs pre.length : Nat), .fz), some (.list ((rowT 0 (legs.length - 1) ++ spinT legs pre.length).map tieD), .own), jk j3, jk j4, none]) hlg ⟨none, none, by simp [spinT, offS, jk]⟩ ?_ ?_
    · rintro pre x post _ hE ⟨j3, j4, rfl⟩
      have hk : pre.length < legs.length := by rw [hE]; simp
      have hx : legs.getD pre.length 0 = x := by rw [hE]; simp
      have hxs : x ≤ legs.sum := le_sum (by rw [hE]; simp)
      have hsl := spin_len legs pre.length
      have hol := off_sum legs pre.length (by omega)
      have htl := take_le legs pre.length
      repeat' array_mem_dec
      refine TN.cp_rng (x) (fun i => tieD (pre.length, offS legs pre.length + i)) (by (first | omega | exact rfl)) (by (first | omega | (simp; done) | (simp; omega))) (by (first | exact rfl | (repeat (first | exact TN.wOk_nil | ((apply TN.wOk_cons); exact rfl; (first | exact TN.okW_none | exact TN.okW_fz | exact TN.okW_jk | assumption)))))) (by (repeat (first | exact wipe_nil | apply wipe_cons | exact st0 | apply stS))) ?_ ?_
      · intro i hi
        repeat' array_mem_dec
        exact ⟨rfl, rfl⟩
      · repeat' array_mem_dec
        refine ⟨some (.int (pre.length : Nat)), some (.int (x : Nat)), ?_⟩
        rw [List.length_append, List.length_singleton, spin_succ, offS, hx, ← List.append_assoc]
        simp only [List.map_append, List.map_map]
        rfl
    · rintro _ ⟨j3, j4, rfl⟩
      repeat' array_mem_dec
      rw [off_end]
      exact ⟨rfl, rfl⟩
theorem full_succ (n K : Nat) : fullT n (K + 1) = fullT n K ++ (List.range (n - (K + 1))).map fun j => (K, K + 1 + j) := by
  unfold fullT; rw [List.range_succ, List.flatMap_append]; simp
theorem sid_succ (a b K : Nat) : sidT a b (K + 1) = sidT a b K ++ (List.range b).map fun j => (K, a + j) := by
  unfold sidT; rw [List.range_succ, List.flatMap_append]; simp
theorem full_le {n K : Nat} (h : n ≤ 100) (hK : K ≤ n) : (fullT n K).length ≤ K * 100 := by
  induction K with
  | zero => simp [fullT]
  | succ K ih =>
    have := ih (by omega)
    rw [full_succ, List.length_append, Nat.succ_mul]; simp; omega
theorem kties_run : ∀ {k : Kd}, KdOk k → (MM_kind_ties [(kdD k, .fz)]).rv = some (.tuple [.int (kdN k : Nat), .list ((kdT k).map tieD)], false)
  | .spine legs, ⟨h1, h2⟩ => by
    have h := spine_run2 h1 h2
    simp only [kdD, kdN, kdT]
    refine rv_gF (in_kind_ties ?_)
    repeat' (first | (apply c_rv rfl rfl h) | array_mem_dec)
    exact ⟨rfl, rfl⟩
  | .ring n, ⟨h1, h2⟩ => by
    have h := row_run 0 (n - 1) (by omega) (by omega)
    have hrl := row_len 0 (n - 1)
    simp only [kdD, kdN, kdT]
    refine rv_gF (in_kind_ties ?_)
    have e : ((n : Nat) : Int) - 1 = ((n - 1 : Nat) : Int) := by omega
    repeat' (first | (rw [e]) | (apply c_rvT rfl rfl h) | array_mem_dec)
    refine ⟨?_, rfl⟩
    rw [List.map_append]; rfl
  | .sides a b, ⟨h1, h2, h3, h4⟩ => by
    have hsl : ∀ K, K ≤ a → (sidT a b K).length ≤ 2000 := fun K hK => by
      rw [sid_len]
      have := Nat.mul_le_mul hK (Nat.le_refl b)
      omega
    simp only [kdD, kdN, kdT]
    refine rv_gF (in_kind_ties ?_)
    repeat' array_mem_dec
    refine for_rng a (fun k ρ => ∃ j3, ρ = [some (.tuple [.str "sides", .int (a : Nat), .int (b : Nat)], .fz), some (.int (a : Nat), .fz), some (.list ((sidT a b k).map tieD), .own), jk j3, none, none]) rfl ⟨none, rfl⟩ ?_ ?_
    · rintro k _ hk ⟨j3, rfl⟩
      have := hsl k (by omega)
      repeat' array_mem_dec
      refine TN.cp_rng (b) (fun i => tieD (k, a + i)) (by (first | omega | exact rfl)) (by (first | omega | (simp; done) | (simp; omega))) (by (first | exact rfl | (repeat (first | exact TN.wOk_nil | ((apply TN.wOk_cons); exact rfl; (first | exact TN.okW_none | exact TN.okW_fz | exact TN.okW_jk | assumption)))))) (by (repeat (first | exact wipe_nil | apply wipe_cons | exact st0 | apply stS))) ?_ ?_
      · intro i hi
        repeat' array_mem_dec
        exact ⟨rfl, rfl⟩
      · repeat' array_mem_dec
        refine ⟨some (.int (k : Nat)), ?_⟩
        rw [sid_succ]
        simp only [List.map_append, List.map_map]
        rfl
    · rintro _ ⟨j3, rfl⟩
      repeat' array_mem_dec
      exact ⟨rfl, rfl⟩
  | .full n, ⟨h1, h2⟩ => by
    simp only [kdD, kdN, kdT]
    refine rv_gF (in_kind_ties ?_)
    repeat' array_mem_dec
    refine for_rng n (fun k ρ => ∃ j3, ρ = [some (.tuple [.str "full", .int (n : Nat)], .fz), some (.int (n : Nat), .fz), some (.list ((fullT n k).map tieD), .own), jk j3, none, none]) rfl ⟨none, rfl⟩ ?_ ?_
    · rintro k _ hk ⟨j3, rfl⟩
      have := full_le (n := n) (K := k) (by omega) (by omega)
      repeat' array_mem_dec
      refine TN.cp_rng2 (k + 1) (n - (k + 1)) (fun i => tieD (k, k + 1 + i)) (by (first | omega | exact rfl)) (by (first | omega | exact rfl)) (by (first | omega | (simp; done) | (simp; omega))) (by (first | exact rfl | (repeat (first | exact TN.wOk_nil | ((apply TN.wOk_cons); exact rfl; (first | exact TN.okW_none | exact TN.okW_fz | exact TN.okW_jk | assumption)))))) (by (repeat (first | exact wipe_nil | apply wipe_cons | exact st0 | apply stS))) ?_ ?_
      · intro i hi
        repeat' array_mem_dec
        exact ⟨rfl, rfl⟩
      · repeat' array_mem_dec
        refine ⟨some (.int (k : Nat)), ?_⟩
        rw [full_succ]
        simp only [List.map_append, List.map_map]
        rfl
    · rintro _ ⟨j3, rfl⟩
      repeat' array_mem_dec
      exact ⟨rfl, rfl⟩
  | .wheel n, ⟨h1, h2⟩ => by
    have h := row_run 1 n (by omega) (by omega)
    have hrl := row_len 1 n
    simp only [kdD, kdN, kdT]
    refine rv_gF (in_kind_ties ?_)
    repeat' array_mem_dec
    refine TN.cp_rng2 (1) (n) (fun i => tieD (0, 1 + i)) (by (first | omega | exact rfl)) (by (first | omega | exact rfl)) (by (first | omega | (simp; done) | (simp; omega))) (by (first | exact rfl | (repeat (first | exact TN.wOk_nil | ((apply TN.wOk_cons); exact rfl; (first | exact TN.okW_none | exact TN.okW_fz | exact TN.okW_jk | assumption)))))) (by (repeat (first | exact wipe_nil | apply wipe_cons | exact st0 | apply stS))) ?_ ?_
    · intro i hi
      repeat' array_mem_dec
      exact ⟨rfl, rfl⟩
    · repeat' (first | (apply c_rvT rfl rfl h) | array_mem_dec)
      refine ⟨?_, rfl⟩
      simp only [List.map_append, List.map_map]
      rfl
  | .fan n, ⟨h1, h2⟩ => by
    have h := row_run 1 n (by omega) (by omega)
    have hrl := row_len 1 n
    simp only [kdD, kdN, kdT]
    refine rv_gF (in_kind_ties ?_)
    repeat' array_mem_dec
    refine TN.cp_rng2 (1) (n) (fun i => tieD (0, 1 + i)) (by (first | omega | exact rfl)) (by (first | omega | exact rfl)) (by (first | omega | (simp; done) | (simp; omega))) (by (first | exact rfl | (repeat (first | exact TN.wOk_nil | ((apply TN.wOk_cons); exact rfl; (first | exact TN.okW_none | exact TN.okW_fz | exact TN.okW_jk | assumption)))))) (by (repeat (first | exact wipe_nil | apply wipe_cons | exact st0 | apply stS))) ?_ ?_
    · intro i hi
      repeat' array_mem_dec
      exact ⟨rfl, rfl⟩
    · repeat' (first | (apply c_rvT rfl rfl h) | array_mem_dec)
      refine ⟨?_, rfl⟩
      simp only [List.map_append, List.map_map]
      rfl
theorem kform_run : ∀ {k : Kd}, KdOk k → (MM_kind_form [(kdD k, .fz)]).rv = some (.bool true, false)
  | .spine legs, ⟨h1, h2⟩ => by
    have h := legsg_run h1 h2
    simp only [kdD]
    refine rv_gF (in_kind_form ?_)
    repeat' (first | (apply c_rv rfl rfl h) | array_mem_dec)
    exact ⟨rfl, rfl⟩
  | .sides a b, ⟨h1, h2, h3, h4⟩ => by
    simp only [kdD]
    refine rv_gF (in_kind_form ?_)
    repeat' array_mem_dec
    refine cp_map [a, b] (fun (k : Nat) => .int (k : Nat)) (fun _ => .bool true) rfl (by simp) (by (first | exact rfl | (repeat (first | exact TN.wOk_nil | ((apply TN.wOk_cons); exact rfl; (first | exact TN.okW_none | exact TN.okW_fz | exact TN.okW_jk | assumption)))))) (by (repeat (first | exact wipe_nil | apply wipe_cons | exact st0 | apply stS))) ?_ ?_
    · intro x hx
      have hx2 : x = a ∨ x = b := by simpa using hx
      repeat' (first | (apply c_rv rfl rfl (whole_run _)) | array_mem_dec)
      rw [decide_eq_true (by omega)]
      exact ⟨rfl, rfl⟩
    · repeat' array_mem_dec
      exact ⟨rfl, rfl⟩
  | .ring n, ⟨h1, h2⟩ => by
    have hin : opInC [("ring", 3), ("full", 1), ("wheel", 3), ("fan", 1)] (.str "ring") = some (.val (.bool true)) := rfl
    have hix : opIxC [("ring", 3), ("full", 1), ("wheel", 3), ("fan", 1)] (.str "ring") = some (.val (.int 3)) := rfl
    simp only [kdD]
    refine rv_gF (in_kind_form ?_)
    repeat' array_mem_dec
    refine cp_map [n] (fun (k : Nat) => .int (k : Nat)) (fun _ => .bool true) rfl (by simp) (by (first | exact rfl | (repeat (first | exact TN.wOk_nil | ((apply TN.wOk_cons); exact rfl; (first | exact TN.okW_none | exact TN.okW_fz | exact TN.okW_jk | assumption)))))) (by (repeat (first | exact wipe_nil | apply wipe_cons | exact st0 | apply stS))) ?_ ?_
    · intro x hx
      have hx2 : x = n := by simpa using hx
      repeat' (first | (apply c_rv rfl rfl (whole_run _)) | array_mem_dec)
      rw [decide_eq_true (by omega)]
      exact ⟨rfl, rfl⟩
    · repeat' array_mem_dec
      rw [decide_eq_true (by omega)]
      exact ⟨rfl, rfl⟩
  | .full n, ⟨h1, h2⟩ => by
    have hin : opInC [("ring", 3), ("full", 1), ("wheel", 3), ("fan", 1)] (.str "full") = some (.val (.bool true)) := rfl
    have hix : opIxC [("ring", 3), ("full", 1), ("wheel", 3), ("fan", 1)] (.str "full") = some (.val (.int 1)) := rfl
    simp only [kdD]
    refine rv_gF (in_kind_form ?_)
    repeat' array_mem_dec
    refine cp_map [n] (fun (k : Nat) => .int (k : Nat)) (fun _ => .bool true) rfl (by simp) (by (first | exact rfl | (repeat (first | exact TN.wOk_nil | ((apply TN.wOk_cons); exact rfl; (first | exact TN.okW_none | exact TN.okW_fz | exact TN.okW_jk | assumption)))))) (by (repeat (first | exact wipe_nil | apply wipe_cons | exact st0 | apply stS))) ?_ ?_
    · intro x hx
      have hx2 : x = n := by simpa using hx
      repeat' (first | (apply c_rv rfl rfl (whole_run _)) | array_mem_dec)
      rw [decide_eq_true (by omega)]
      exact ⟨rfl, rfl⟩
    · repeat' array_mem_dec
      rw [decide_eq_true (by omega)]
      exact ⟨rfl, rfl⟩
  | .wheel n, ⟨h1, h2⟩ => by
    have hin : opInC [("ring", 3), ("full", 1), ("wheel", 3), ("fan", 1)] (.str "wheel") = some (.val (.bool true)) := rfl
    have hix : opIxC [("ring", 3), ("full", 1), ("wheel", 3), ("fan", 1)] (.str "wheel") = some (.val (.int 3)) := rfl
    simp only [kdD]
    refine rv_gF (in_kind_form ?_)
    repeat' array_mem_dec
    refine cp_map [n] (fun (k : Nat) => .int (k : Nat)) (fun _ => .bool true) rfl (by simp) (by (first | exact rfl | (repeat (first | exact TN.wOk_nil | ((apply TN.wOk_cons); exact rfl; (first | exact TN.okW_none | exact TN.okW_fz | exact TN.okW_jk | assumption)))))) (by (repeat (first | exact wipe_nil | apply wipe_cons | exact st0 | apply stS))) ?_ ?_
    · intro x hx
      have hx2 : x = n := by simpa using hx
      repeat' (first | (apply c_rv rfl rfl (whole_run _)) | array_mem_dec)
      rw [decide_eq_true (by omega)]
      exact ⟨rfl, rfl⟩
    · repeat' array_mem_dec
      rw [decide_eq_true (by omega)]
      exact ⟨rfl, rfl⟩
  | .fan n, ⟨h1, h2⟩ => by
    have hin : opInC [("ring", 3), ("full", 1), ("wheel", 3), ("fan", 1)] (.str "fan") = some (.val (.bool true)) := rfl
    have hix : opIxC [("ring", 3), ("full", 1), ("wheel", 3), ("fan", 1)] (.str "fan") = some (.val (.int 1)) := rfl
    simp only [kdD]
    refine rv_gF (in_kind_form ?_)
    repeat' array_mem_dec
    refine cp_map [n] (fun (k : Nat) => .int (k : Nat)) (fun _ => .bool true) rfl (by simp) (by (first | exact rfl | (repeat (first | exact TN.wOk_nil | ((apply TN.wOk_cons); exact rfl; (first | exact TN.okW_none | exact TN.okW_fz | exact TN.okW_jk | assumption)))))) (by (repeat (first | exact wipe_nil | apply wipe_cons | exact st0 | apply stS))) ?_ ?_
    · intro x hx
      have hx2 : x = n := by simpa using hx
      repeat' (first | (apply c_rv rfl rfl (whole_run _)) | array_mem_dec)
      rw [decide_eq_true (by omega)]
      exact ⟨rfl, rfl⟩
    · repeat' array_mem_dec
      rw [decide_eq_true (by omega)]
      exact ⟨rfl, rfl⟩
theorem kgood_run {k : Kd} (h : KdOk k) : (MM_kind_good [(kdD k, .fz)]).rv = some (.bool true, false) := by
  have h1 := kform_run h
  have h2 := kties_run h
  have hw := kd_web h
  have hn := hw.n40
  have ht := hw.t60
  generalize kdD k = KD at *
  refine rv_gF (in_kind_good ?_)
  repeat' (first | (apply c_rv rfl rfl h1) | (apply c_rv rfl rfl h2) | array_mem_dec)
  rw [decide_eq_true (by omega)]
  exact ⟨rfl, rfl⟩
theorem webfor_run {k : Kd} (h : KdOk k) : (MM_web_for [(kdD k, .fz)]).rv = some (kdWeb k, false) := by
  have h1 := kgood_run h
  have h2 := kties_run h
  have hw := kd_web h
  have ht := hw.t60
  have hso := sortT_run (kdT k) (by omega)
  unfold kdWeb
  generalize kdD k = KD at *
  refine rv_gF (in_web_for ?_)
  repeat' (first | (apply c_rv rfl rfl h1) | (apply c_rv rfl rfl h2) | array_mem_dec)
  exact ⟨rfl, rfl⟩
end TN
namespace TN
open PySem PySem.Spec PyProof.Rows L2
def kdIx : Kd → Nat
  | .spine _ => 0 | .ring _ => 1 | .sides _ _ => 2 | .full _ => 3 | .wheel _ => 4 | .fan _ => 5
end TN
namespace TN
open PySem PySem.Spec PyProof.Rows L2
/-! ### defs that hand out new lists in a tuple, from their end -/
/-! ### the law's webs of kinds -/
section
variable {C : Nat → Nat → Prop} [∀ a b, Decidable (C a b)]
end
theorem perm_spine (legs : List Nat) : (tieS legs legs.length).Perm (rowT 0 (legs.length - 1) ++ spinT legs legs.length) := by
  have key : ∀ K, (tieS legs K).Perm (rowT 0 (K - 1) ++ spinT legs K) := by
    intro K
    induction K with
    | zero => simp [tieS, rowT, spinT]
    | succ K ih =>
      rw [tieS_succ, spin_succ]
      have e : tieK legs K = (if K = 0 then [] else [(K - 1, K)]) ++ (List.range (legs.getD K 0)).map fun i => (K, offS legs K + i) := rfl
      rw [e]
      have hr : rowT 0 (K + 1 - 1) = rowT 0 (K - 1) ++ if K = 0 then [] else [(K - 1, K)] := by
        by_cases h : K = 0
        · subst h; simp [rowT]
        · rw [if_neg h]
          unfold rowT
          rw [show K + 1 - 1 - 0 = (K - 1 - 0) + 1 by omega, List.range_succ, List.map_append]
          simp; omega
      rw [hr]
      refine (ih.append_right _).trans ?_
      generalize rowT 0 (K - 1) = R
      generalize spinT legs K = S
      generalize (if K = 0 then [] else [(K - 1, K)]) = U
      generalize (List.range (legs.getD K 0)).map (fun i => (K, offS legs K + i)) = V
      rw [List.append_assoc, List.append_assoc]
      refine List.Perm.append_left R ?_
      rw [← List.append_assoc, ← List.append_assoc]
      exact List.Perm.append_right V List.perm_append_comm
  exact key legs.length
theorem side_flat (a b : Nat) (hb : 1 ≤ b) : ∀ K, (List.range (K * b)).map (fun k => (k / b, a + k % b)) = sidT a b K
  | 0 => by simp [sidT]
  | K + 1 => by
    rw [sid_succ, ← side_flat a b hb K, Nat.succ_mul, List.range_add, List.map_append, List.map_map]
    congr 1
    refine List.map_congr_left fun j hj => ?_
    have := List.mem_range.mp hj
    simp only [Function.comp]
    rw [show K * b + j = b * K + j by rw [Nat.mul_comm], Nat.mul_add_div (by omega), Nat.div_eq_of_lt this, Nat.mul_add_mod, Nat.mod_eq_of_lt this, Nat.add_zero]
end TN
namespace TN
open PySem PySem.Spec PyProof.Rows L2
/-! ### equal webs -/
/-! ### f(g(..), x) where g's list is lent -/
end TN
namespace TN
open PySem PySem.Spec PyProof.Rows L2
abbrev cc_check_made : CS := (cIf (cOr (cNot (cTst (cCall MM_kind_good (cCons (cVar 0) cNil)))) (cTst (cBin opNotIn (cBin opIx (cVar 0) (cLit (.int 0))) (cVar 1))))
  (cRaise "NoKind")
  cSkip)
def MM_check_made : FM := mkF 2 2 cc_check_made
theorem in_check_made {x0 x1 : D} {m0 m1 : Md} {T : D → Bool → List Slot → Prop} {E : Xc → List Slot → Prop} (h : gS (cc_check_made [some (x0, m0), some (x1, m1)]) (fun ρ => T .none false (ρ.take 2)) (fun d fr ρ => T d fr (ρ.take 2)) (fun x ρ => E x (ρ.take 2))) : gF (MM_check_made [(x0, m0), (x1, m1)]) T E := gF_mk rfl h
abbrev bb_spine_steps_1 : CS := (cSeq (cDrop (cMutL 4 fAppend (cCons (cBin opIx (cVar 2) (cVar 8)) cNil)))
  (cAugS 2 putL (fun i j => i + j) (cVar 8) (cBin opSub (cLit (.int 1)) (cBin opMul (cLit (.int 2)) (cVar 8)))))
abbrev bb_spine_steps_2 : CS := (cSeq (cSet 8 (cBin opSub (cLit (.int 1)) (cVar 5)))
  (cSeq (cFor (cRng1 (cVar 7)) (gNm 9)
  bb_spine_steps_1)
  (cSeq (cIf (cTst (cBin opLt (cBin opAdd (cVar 6) (cLit (.int 1))) (cFn fLen (cCons (cVar 0) cNil))))
  (cSeq (cDrop (cMutL 3 fAppend (cCons (cBin opIx (cVar 2) (cVar 8)) cNil)))
  (cAugS 2 putL (fun i j => i + j) (cVar 8) (cBin opSub (cLit (.int 1)) (cBin opMul (cLit (.int 2)) (cVar 8)))))
  cSkip)
  (cSet 5 (cVar 8)))))
abbrev cc_spine_steps : CS := (cSeq (cSet 1 (cBin opSub (cBin opAdd (cFn fLen (cCons (cVar 0) cNil)) (cFn fSum (cCons (cVar 0) cNil))) (cLit (.int 1))))
  (cSeq (cSet 2 (cLst (cCons (cLit (.int 0)) (cCons (cVar 1) cNil))))
  (cSeq (cSet 3 (cLst cNil))
  (cSeq (cSet 4 (cLst cNil))
  (cSeq (cSet 5 (cLit (.int 0)))
  (cSeq (cDrop (cMutL 3 fAppend (cCons (cBin opIx (cVar 2) (cLit (.int 0))) cNil)))
  (cSeq (cAugS 2 putL (fun i j => i + j) (cLit (.int 0)) (cLit (.int 1)))
  (cSeq (cFor (cEnum (cVar 0)) (gTp 2 (gsCons (gNm 6) (gsCons (gNm 7) gsNil)))
  bb_spine_steps_2)
  (cRet (cFn fTuple (cCons (cBin opAdd (cVar 3) (cVar 4)) cNil)))))))))))
def MM_spine_steps : FM := mkF 1 10 cc_spine_steps
theorem in_spine_steps {x0 : D} {m0 : Md} {T : D → Bool → List Slot → Prop} {E : Xc → List Slot → Prop} (h : gS (cc_spine_steps [some (x0, m0), none, none, none, none, none, none, none, none, none]) (fun ρ => T .none false (ρ.take 1)) (fun d fr ρ => T d fr (ρ.take 1)) (fun x ρ => E x (ρ.take 1))) : gF (MM_spine_steps [(x0, m0)]) T E := gF_mk rfl h
abbrev ee_sides_steps_1 : CE := (cBin opMul (cVar 0) (cVar 2))
abbrev cc_sides_steps : CS := (cRet (cFn fTuple (cCons (cBin opAdd (cLstRg (cRg1 (cVar 0))) (cComp (cRng2 (cLit (.int 1)) (cBin opAdd (cVar 1) (cLit (.int 1)))) (gNm 2) tTrue ee_sides_steps_1 [2])) cNil)))
def MM_sides_steps : FM := mkF 2 3 cc_sides_steps
theorem in_sides_steps {x0 x1 : D} {m0 m1 : Md} {T : D → Bool → List Slot → Prop} {E : Xc → List Slot → Prop} (h : gS (cc_sides_steps [some (x0, m0), some (x1, m1), none]) (fun ρ => T .none false (ρ.take 2)) (fun d fr ρ => T d fr (ρ.take 2)) (fun x ρ => E x (ρ.take 2))) : gF (MM_sides_steps [(x0, m0), (x1, m1)]) T E := gF_mk rfl h
abbrev bb_ring_steps_1 : CS := (cSeq (cSet 3 (cBin opDiv (cVar 2) (cLit (.int 2))))
  (cSeq (cIf (cTst (cBin opEq (cBin opMod (cVar 2) (cLit (.int 2))) (cLit (.int 1))))
  (cSet 3 (cBin opSub (cVar 0) (cBin opDiv (cVar 2) (cLit (.int 2)))))
  cSkip)
  (cSeq (cIf (cAnd (cTst (cBin opGe (cBin opMul (cLit (.int 2)) (cVar 2)) (cVar 0))) (cTst (cBin opEq (cBin opMod (cVar 2) (cLit (.int 2))) (cBin opSub (cLit (.int 1)) (cBin opMod (cVar 0) (cLit (.int 2)))))))
  (cAugI 3 (fun i j => i + j) (cBin opIx (cLst (cCons (cLit (.int 1)) (cCons (cUn opNeg (cLit (.int 1))) cNil))) (cBin opMod (cVar 2) (cLit (.int 2)))))
  cSkip)
  (cDrop (cMutL 1 fAppend (cCons (cVar 3) cNil))))))
abbrev cc_ring_steps : CS := (cSeq (cSet 1 (cLst cNil))
  (cSeq (cFor (cRng1 (cVar 0)) (gNm 2)
  bb_ring_steps_1)
  (cRet (cFn fTuple (cCons (cVar 1) cNil)))))
def MM_ring_steps : FM := mkF 1 4 cc_ring_steps
theorem in_ring_steps {x0 : D} {m0 : Md} {T : D → Bool → List Slot → Prop} {E : Xc → List Slot → Prop} (h : gS (cc_ring_steps [some (x0, m0), none, none, none]) (fun ρ => T .none false (ρ.take 1)) (fun d fr ρ => T d fr (ρ.take 1)) (fun x ρ => E x (ρ.take 1))) : gF (MM_ring_steps [(x0, m0)]) T E := gF_mk rfl h
abbrev cc_steps_for : CS := (cSeq (cDrop (cCall MM_check_made (cCons (cVar 0) (cCons (cTup (cCons (cLit (.str "spine")) (cCons (cLit (.str "ring")) (cCons (cLit (.str "sides")) cNil)))) cNil))))
  (cSeq (cIf (cTst (cBin opEq (cBin opIx (cVar 0) (cLit (.int 0))) (cLit (.str "spine"))))
  (cRet (cTup (cCons (cLit (.str "numbering")) (cCons (cCall MM_spine_steps (cCons (cBin opIx (cVar 0) (cLit (.int 1))) cNil)) cNil))))
  cSkip)
  (cSeq (cIf (cTst (cBin opEq (cBin opIx (cVar 0) (cLit (.int 0))) (cLit (.str "sides"))))
  (cRet (cTup (cCons (cLit (.str "numbering")) (cCons (cCall MM_sides_steps (cCons (cBin opIx (cVar 0) (cLit (.int 1))) (cCons (cBin opIx (cVar 0) (cLit (.int 2))) cNil))) cNil))))
  cSkip)
  (cSeq (cIf (cTst (cBin opIn (cBin opMod (cBin opIx (cVar 0) (cLit (.int 1))) (cLit (.int 4))) (cTup (cCons (cLit (.int 1)) (cCons (cLit (.int 2)) cNil)))))
  (cRet (cTup (cCons (cLit (.str "bar")) (cCons (cTup (cCons (cLit (.str "even")) cNil)) cNil))))
  cSkip)
  (cRet (cTup (cCons (cLit (.str "numbering")) (cCons (cCall MM_ring_steps (cCons (cBin opIx (cVar 0) (cLit (.int 1))) cNil)) cNil))))))))
def MM_steps_for : FM := mkF 1 1 cc_steps_for
theorem in_steps_for {x0 : D} {m0 : Md} {T : D → Bool → List Slot → Prop} {E : Xc → List Slot → Prop} (h : gS (cc_steps_for [some (x0, m0)]) (fun ρ => T .none false (ρ.take 1)) (fun d fr ρ => T d fr (ρ.take 1)) (fun x ρ => E x (ρ.take 1))) : gF (MM_steps_for [(x0, m0)]) T E := gF_mk rfl h
abbrev cc_parted_for : CS := (cSeq (cDrop (cCall MM_check_made (cCons (cVar 0) (cCons (cTup (cCons (cLit (.str "spine")) (cCons (cLit (.str "sides")) cNil))) cNil))))
  (cSeq (cIf (cTst (cBin opEq (cBin opIx (cCall MM_web_for (cCons (cVar 0) cNil)) (cLit (.int 1))) (cTup cNil)))
  (cRaise "NoKind")
  cSkip)
  (cRet (cBin opIx (cCall MM_steps_for (cCons (cVar 0) cNil)) (cLit (.int 1))))))
def MM_parted_for : FM := mkF 1 1 cc_parted_for
theorem in_parted_for {x0 : D} {m0 : Md} {T : D → Bool → List Slot → Prop} {E : Xc → List Slot → Prop} (h : gS (cc_parted_for [some (x0, m0)]) (fun ρ => T .none false (ρ.take 1)) (fun d fr ρ => T d fr (ρ.take 1)) (fun x ρ => E x (ρ.take 1))) : gF (MM_parted_for [(x0, m0)]) T E := gF_mk rfl h
/-! ### steps numberings of kinds, plainly -/
def ringV (n : Nat) (k : Nat) : Int :=
  if n ≤ 2 * k ∧ k % 2 = 1 - n % 2 then (if k % 2 = 1 then (n : Int) - (k / 2 : Nat) else (k / 2 : Nat)) + (if k % 2 = 0 then 1 else -1) else if k % 2 = 1 then (n : Int) - (k / 2 : Nat) else (k / 2 : Nat)
def ringP (n : Nat) : List Int := (List.range n).map (ringV n)
def grC (m : Nat) (T : List (Nat × Nat)) (N : List Int) : Bool := decide (N.length = m) && (decide (1 ≤ m) && (T.all (fun t => decide (t.1 < m) && decide (t.2 < m)) && (N.all (fun x => decide (0 ≤ x) && decide (x ≤ (T.length : Int))) && (decide N.Nodup && (steps N T).isPerm (rgI 1 ((T.length : Int) + 1))))))
theorem gr_ofC {m : Nat} {T : List (Nat × Nat)} {N : List Int} (h : grC m T N = true) : Gr m T N := by
  unfold grC at h
  simp only [Bool.and_eq_true, decide_eq_true_eq, List.all_eq_true, List.isPerm_iff] at h
  obtain ⟨h1, h2, h3, h4, h5, h6⟩ := h
  exact ⟨h1, h2, h3, h4, h5, h6⟩
theorem rings_ok : ((List.range 41).all fun n => !(decide (3 ≤ n) && (decide (n % 4 = 0) || decide (n % 4 = 3))) || grC n (kdT (.ring n)) (ringP n)) = true := by decide +kernel
theorem side_lo {a b i : Nat} (h : i < a) : (sideN a b).getD i 0 = (i : Int) := by
  unfold sideN
  rw [List.getD_eq_getElem?_getD, List.getElem?_append_left (by simpa using h)]
  simp [h]
theorem side_hi {a b j : Nat} (h : j < b) : (sideN a b).getD (a + j) 0 = (a : Int) * ((j : Int) + 1) := by
  unfold sideN
  rw [List.getD_eq_getElem?_getD, List.getElem?_append_right (by simp)]
  simp [h]
theorem side_gap {a j j' : Nat} (h : j < j') : (a : Int) * ((j : Int) + 1) + a ≤ (a : Int) * ((j' : Int) + 1) := by
  have h1 : (a : Int) * ((j : Int) + 1 + 1) ≤ (a : Int) * ((j' : Int) + 1) := Int.mul_le_mul_of_nonneg_left (by omega) (by omega)
  have h2 : (a : Int) * ((j : Int) + 1 + 1) = (a : Int) * ((j : Int) + 1) + a := by rw [Int.mul_add (a : Int) ((j : Int) + 1) 1, Int.mul_one]
  omega
theorem side_ge {a j : Nat} : (a : Int) ≤ (a : Int) * ((j : Int) + 1) := by
  have h1 : (a : Int) * 1 ≤ (a : Int) * ((j : Int) + 1) := Int.mul_le_mul_of_nonneg_left (by omega) (by omega)
  omega
theorem side_le {a b j : Nat} (h : j < b) : (a : Int) * ((j : Int) + 1) ≤ ((a * b : Nat) : Int) := by
  rw [Int.natCast_mul]
  exact Int.mul_le_mul_of_nonneg_left (by omega) (by omega)
theorem side_gr {a b : Nat} (h : KdOk (.sides a b)) : Gr (a + b) (sidT a b a) (sideN a b) := by
  have hlen : (sidT a b a).length = a * b := by
    rw [← side_flat a b h.2.1 a, List.length_map, List.length_range]
  have hnd : (sidT a b a).Nodup := (kd_web h).nd
  have hv : ∀ t ∈ sidT a b a, ∃ i j, i < a ∧ j < b ∧ t = (i, a + j) ∧ absI ((sideN a b).getD t.1 0 - (sideN a b).getD t.2 0) = (a : Int) * ((j : Int) + 1) - i := by
    intro t ht
    obtain ⟨h1, h2, h3⟩ := mem_sid.mp ht
    refine ⟨t.1, t.2 - a, h1, by omega, ?_, ?_⟩
    · obtain ⟨x, y⟩ := t
      simp only at *
      rw [show a + (y - a) = y by omega]
    · have e : t.2 = a + (t.2 - a) := by omega
      rw [side_lo h1, e, side_hi (by omega)]
      have := side_ge (a := a) (j := a + (t.2 - a) - a)
      rw [show a + (t.2 - a) - a = t.2 - a by omega] at *
      unfold absI
      split <;> omega
  refine ⟨by simp [sideN], by have := h.1; omega, fun t ht => by have := mem_sid.mp ht; omega, ?_, ?_, ?_⟩
  · rw [hlen]
    intro x hx
    unfold sideN at hx
    rcases List.mem_append.mp hx with hx | hx
    · obtain ⟨i, hi, rfl⟩ := List.mem_map.mp hx
      have h1 := List.mem_range.mp hi
      have h2 := side_le (a := a) (j := 0) h.2.1
      simp at h2
      exact ⟨by omega, by omega⟩
    · obtain ⟨j, hj, rfl⟩ := List.mem_map.mp hx
      have h1 := side_le (a := a) (List.mem_range.mp hj)
      have h2 := side_ge (a := a) (j := j)
      exact ⟨by omega, h1⟩
  · unfold sideN
    refine List.nodup_append.mpr ⟨?_, ?_, ?_⟩
    · unfold List.Nodup
      rw [List.pairwise_map]
      exact List.Pairwise.imp (fun {x y} hxy e => hxy (by omega)) (List.nodup_range (n := a))
    · unfold List.Nodup
      rw [List.pairwise_map]
      refine List.Pairwise.imp (fun {x y} hxy e => ?_) (List.nodup_range (n := b))
      rcases Nat.lt_trichotomy x y with q | q | q
      · have := side_gap (a := a) q; have := h.1; omega
      · exact hxy q
      · have := side_gap (a := a) q; have := h.1; omega
    · intro x hx y hy e
      obtain ⟨i, hi, rfl⟩ := List.mem_map.mp hx
      obtain ⟨j, hj, rfl⟩ := List.mem_map.mp hy
      have h1 := List.mem_range.mp hi
      have h2 := side_ge (a := a) (j := j)
      omega
  · refine perm_of ?_ ?_ (by rw [steps_len, rg_len]; omega)
    · unfold steps List.Nodup
      rw [List.pairwise_map]
      refine List.Pairwise.imp_of_mem (fun {s t} hs ht hne e => hne ?_) hnd
      obtain ⟨i, j, h1, h2, h3, h4⟩ := hv s hs
      obtain ⟨i', j', h5, h6, h7, h8⟩ := hv t ht
      rw [h4, h8] at e
      rcases Nat.lt_trichotomy j j' with q | q | q
      · have := side_gap (a := a) q; omega
      · subst q
        rw [h3, h7, show i = i' by omega]
      · have := side_gap (a := a) q; omega
    · intro x hx
      unfold steps at hx
      obtain ⟨t, ht, rfl⟩ := List.mem_map.mp hx
      obtain ⟨i, j, h1, h2, h3, h4⟩ := hv t ht
      rw [h4, hlen]
      have h5 := side_le (a := a) h2
      have h6 := side_ge (a := a) (j := j)
      exact rg_mem0.mpr (by omega)
theorem Gr.permT {m : Nat} {T T' : List (Nat × Nat)} {N : List Int} (g : Gr m T N) (h : T.Perm T') : Gr m T' N := by
  have hl := h.length_eq
  exact ⟨g.len, g.pos, fun t ht => g.lt t (h.mem_iff.mpr ht), by rw [← hl]; exact g.rng, g.nd, by rw [← hl]; exact (h.symm.map _).trans g.st⟩
def numK : Kd → List Int
  | .spine legs => numS legs
  | .sides a b => sideN a b
  | .ring n => ringP n
  | _ => []
def kdB : Kd → Bool
  | .ring n => decide (n % 4 = 1) || decide (n % 4 = 2)
  | _ => false
theorem num_gr : ∀ {k : Kd}, KdOk k → kdIx k < 3 → kdB k = false → Gr (kdN k) (kdT k) (numK k)
  | .spine legs, ⟨h1, h2⟩, _, _ => by
    by_cases h3 : 2 ≤ legs.length + legs.sum
    · have p := spine_ptd legs h1 h3
      have hp := perm_spine legs
      have hpos : 1 ≤ legs.length + legs.sum := by omega
      refine Gr.permT (T := tieS legs legs.length) ⟨p.ln, hpos, p.lt, p.rng, p.pm.nodup_iff.mpr (rg_nodup _ _), p.sp⟩ hp
    · have hl : legs = [0] := by
        rcases legs with _ | ⟨x, _ | ⟨y, l⟩⟩
        · simp at h1
        · simp at h3; rw [show x = 0 by omega]
        · exfalso; simp at h3; omega
      subst hl
      exact ⟨rfl, by decide, by decide, by decide, by decide, by decide⟩
  | .sides a b, h, _, _ => side_gr h
  | .ring n, ⟨h1, h2⟩, _, hb => by
    have h := List.all_eq_true.mp rings_ok n (List.mem_range.mpr (by omega))
    have hb' : (decide (n % 4 = 0) || decide (n % 4 = 3)) = true := by
      simp [kdB] at hb ⊢; omega
    rw [decide_eq_true h1, hb'] at h
    have h' : grC n (kdT (.ring n)) (ringP n) = true := by simpa using h
    exact gr_ofC h'
/-! ### the package's runs -/
theorem leaf4 {a0 a2 a3 : Slot} {L L' : List D} (h : L = L') : [a0, some (PyData.list L, Md.own), a2, a3] = [a0, some (PyData.list L', Md.own), a2, a3] := by rw [h]
theorem sidesS_run {a b : Nat} (ha : a ≤ 100) (hb : b ≤ 100) : (MM_sides_steps [(.int (a : Nat), .fz), (.int (b : Nat), .fz)]).rv = some (.tuple ((sideN a b).map .int), false) := by
  have hrl : (rgI 0 (a : Int)).length = a := by simp [rgI]
  refine rv_gF (in_sides_steps ?_)
  repeat' array_mem_dec
  refine cp_rng2 1 b (fun i => .int ((a : Int) * ((i : Int) + 1))) rfl (by omega) (by omega) (by (first | exact rfl | (repeat (first | exact TN.wOk_nil | ((apply TN.wOk_cons); exact rfl; (first | exact TN.okW_none | exact TN.okW_fz | exact TN.okW_jk | assumption)))))) (by (repeat (first | exact wipe_nil | apply wipe_cons | exact st0 | apply stS))) ?_ ?_
  · intro i hi
    repeat' array_mem_dec
    rw [show (((1 + i : Nat) : Nat) : Int) = (i : Int) + 1 by omega]
    exact ⟨rfl, rfl⟩
  · repeat' array_mem_dec
    refine ⟨?_, rfl⟩
    unfold sideN
    rw [List.map_append, List.map_map, List.map_map, rgI_nat, List.map_map]
    rfl
theorem ringS_run {n : Nat} (hn : n ≤ 100) : (MM_ring_steps [(.int (n : Nat), .fz)]).rv = some (.tuple ((ringP n).map .int), false) := by
  refine rv_gF (in_ring_steps ?_)
  repeat' array_mem_dec
  refine for_rng n (fun k ρ => ∃ s2 s3, okW s2 ∧ okW s3 ∧ ρ = [some (.int (n : Nat), .fz), some (.list (((List.range k).map (ringV n)).map .int), .own), s2, s3]) rfl ⟨none, none, trivial, trivial, rfl⟩ ?_ ?_
  · rintro k _ hk ⟨s2, s3, h2, h3, rfl⟩
    have h2' := okW_S h2
    have h3' := okW_S h3
    have hpick : opIx (.list [.int 1, .int (-1)]) (.int ((k : Int) % 2)) = some (.val (.int (if k % 2 = 0 then 1 else -1))) := by
      by_cases h : k % 2 = 0
      · rw [if_pos h, show ((k : Int) % 2) = 0 by omega]; rfl
      · rw [if_neg h, show ((k : Int) % 2) = 1 by omega]; rfl
    have hsn : ∀ x : Int, x = ringV n k → (((List.range k).map (ringV n)).map PyData.int) ++ [.int x] = ((List.range (k + 1)).map (ringV n)).map .int := by
      rintro _ rfl
      rw [List.range_succ, List.map_append, List.map_append]; rfl
    have hlen : (((List.range k).map (ringV n)).map PyData.int).length = k := by simp
    generalize ((List.range k).map (ringV n)).map PyData.int = A at *
    generalize ((List.range (k + 1)).map (ringV n)).map PyData.int = A' at *
    repeat' (first | array_mem_dec | (refine br_dec (fun _ => ?_) fun _ => ?_))
    all_goals exact ⟨_, _, okW_fz, okW_fz, leaf4 (hsn _ (by unfold ringV; (repeat' split) <;> omega))⟩
  · rintro _ ⟨s2, s3, h2, h3, rfl⟩
    repeat' array_mem_dec
    exact ⟨rfl, rfl⟩
theorem in_strs (w : Str) (l : List Str) (hw : PyData.strOk w = true) (hl : l.all PyData.strOk = true) : opIn (.str w) (.tuple (l.map .str)) = some (.val (.bool (l.any fun z => z == w))) ∧ opNotIn (.str w) (.tuple (l.map .str)) = some (.val (.bool (!(l.any fun z => z == w)))) := by
  have h1 := shaped_str hw
  have h2 : SeqAt.shaped (.tuple (l.map PyData.str)) = true := by
    have hd : PyData.depthAll (l.map PyData.str) ≤ 1 := by
      clear hl
      induction l with
      | nil => simp [PyData.depthAll]
      | cons a l ih => simp only [List.map_cons, PyData.depthAll, PyData.depth]; omega
    have hc : PyData.canLayAll0 (l.map PyData.str) = true := by
      clear hd
      induction l with
      | nil => simp [PyData.canLayAll0]
      | cons a l ih =>
        simp only [List.all_cons, Bool.and_eq_true] at hl
        simp only [List.map_cons, PyData.canLayAll0, PyData.canLay0, hl.1, Bool.true_and]
        exact ih hl.2
    unfold SeqAt.shaped
    simp only [PyData.canLay0, hc, PyData.depth, Bool.true_and]
    exact decide_eq_true (by omega)
  have h3 : ((l.map PyData.str).any fun z => PyData.eqv z (.str w)) = l.any fun z => z == w := by
    rw [List.any_map]
    congr 1
  unfold opIn opNotIn
  simp only [seqOf, h1, h2, h3, and_self, if_true]
def kdW : Kd → Str
  | .spine _ => "spine" | .ring _ => "ring" | .sides _ _ => "sides" | .full _ => "full" | .wheel _ => "wheel" | .fan _ => "fan"
theorem kd_word (k : Kd) : opIx (kdD k) (.int 0) = some (.val (.str (kdW k))) := by cases k <;> rfl
theorem check_yes {k : Kd} (h : KdOk k) {l : List Str} (hl : opNotIn (.str (kdW k)) (.tuple (l.map .str)) = some (.val (.bool false))) : (MM_check_made [(kdD k, .fz), (.tuple (l.map .str), .fz)]).rv = some (.none, false) := by
  have h1 := kgood_run h
  have h2 := kd_word k
  generalize kdD k = KD at *
  generalize l.map PyData.str = LD at *
  refine rv_gF (in_check_made ?_)
  repeat' (first | array_mem_dec | ((with_reducible refine TN.c_rv ?_ ?_ h1 ?_); exact rfl; exact rfl))
  exact ⟨rfl, rfl⟩
/-- the spine's numbers, by the package -/
theorem leafS {s0 s1 s6 s7 s8 s9 : Slot} {a a' b b' c c' : Int} {A A' B B' : List D} (h1 : a = a') (h2 : b = b') (h3 : A = A') (h4 : B = B') (h5 : c = c') :
    [s0, s1, some (PyData.list [.int a, .int b], Md.own), some (PyData.list A, Md.own), some (PyData.list B, Md.own), some (PyData.int c, Md.fz), s6, s7, s8, s9] = [s0, s1, some (PyData.list [.int a', .int b'], Md.own), some (PyData.list A', Md.own), some (PyData.list B', Md.own), some (PyData.int c', Md.fz), s6, s7, s8, s9] := by subst h1 h2 h3 h4 h5; rfl
def lfI (legs : List Nat) (k i : Nat) : List D := (lfS legs k ++ (List.range i).map (lfV legs k)).map .int
theorem lfI_succ (legs : List Nat) (k i : Nat) {x : Int} (h : x = lfV legs k i) : lfI legs k i ++ [.int x] = lfI legs k (i + 1) := by
  subst h; unfold lfI
  rw [List.range_succ, List.map_append, List.map_append, List.map_append, List.map_append, List.append_assoc]; rfl
theorem lfI_end (legs : List Nat) (k : Nat) : lfI legs k (legs.getD k 0) = (lfS legs (k + 1)).map .int := by unfold lfI; rw [lfS_succ]; rfl
theorem lfI_len (legs : List Nat) (k i : Nat) : (lfI legs k i).length = (lfS legs k).length + i := by unfold lfI; simp
theorem spI_succ (legs : List Nat) {k : Nat} (h : k + 1 < legs.length) {x : Int} (hx : x = spV legs (k + 1)) : (spS legs (min (k + 1) legs.length)).map PyData.int ++ [.int x] = (spS legs (min (k + 1 + 1) legs.length)).map .int := by
  subst hx
  rw [Nat.min_eq_left (by omega), Nat.min_eq_left (by omega), spS_succ legs (k + 1), List.map_append]; rfl
theorem spineS_run {legs : List Nat} (h1 : 1 ≤ legs.length) (hl : legs.length + legs.sum ≤ 1000) : (MM_spine_steps [(.tuple (lg legs), .fz)]).rv = some (.tuple ((numS legs).map .int), false) := by
  have hfl := fLen_lgT legs
  have hsu := sum_lgT legs
  have hlg : lg legs = legs.map fun (k : Nat) => PyData.int (k : Nat) := rfl
  have hcn : (legs.length : Int) + (legs.sum : Nat) - 1 = cntS legs := rfl
  generalize lg legs = LD at *
  refine rv_gF (in_spine_steps ?_)
  repeat' array_mem_dec
  refine for_enum legs (fun (k : Nat) => .int (k : Nat)) (fun pre ρ => ∃ j6 j7 j8 j9, ρ = [some (.tuple LD, .fz), some (.int (cntS legs), .fz), some (.list [.int (loS legs pre.length), .int (hiS legs pre.length)], .own), some (.list ((spS legs (min (pre.length + 1) legs.length)).map .int), .own), some (.list ((lfS legs pre.length).map .int), .own), some (.int ((pre.length % 2 : Nat) : Int), .fz), jk j6, jk j7, jk j8, jk j9]) hlg ?_ ?_ ?_
  · refine ⟨none, none, none, none, ?_⟩
    rw [show ([] : List Nat).length = 0 from rfl, Nat.min_eq_left h1]; rfl
  · rintro pre x post _ hE ⟨j6, j7, j8, j9, rfl⟩
    have hk : pre.length < legs.length := by rw [hE]; simp
    have hx : legs.getD pre.length 0 = x := by rw [hE]; simp
    have hxs : x ≤ legs.sum := le_sum (by rw [hE]; simp)
    have hll := lf_len legs pre.length
    have hol := off_sum legs pre.length (by omega)
    have htl := take_le legs pre.length
    have hss := spS_len legs (min (pre.length + 1) legs.length)
    rw [List.length_append, List.length_singleton]
    generalize pre.length = k at *
    have hl0 : (lfS legs k).map PyData.int = lfI legs k 0 := by simp [lfI]
    have hle := lfI_end legs k
    rw [hx] at hle
    rw [hl0, ← hle]
    have hln := fun i => lfI_len legs k i
    have hsc := fun i (v : Int) => lfI_succ legs k i (x := v)
    rcases Nat.mod_two_eq_zero_or_one k with hp | hp
    · have hp' : (k + 1) % 2 = 1 := by omega
      have hlo : loS legs (k + 1) = loS legs k := by rw [loS, if_neg (by omega)]
      have hhi : hiS legs (k + 1) = hiS legs k - ((x + if k + 1 < legs.length then 1 else 0 : Nat) : Int) := by rw [hiS, if_neg (by omega), exS, hx]
      have hsp : ∀ v : Int, k + 1 < legs.length → v = hiS legs (k + 1) + 1 → (spS legs (min (k + 1) legs.length)).map PyData.int ++ [.int v] = (spS legs (min (k + 1 + 1) legs.length)).map .int := fun v h hv => spI_succ legs h (by rw [hv]; simp [spV, hp'])
      have hlv : ∀ i : Nat, lfV legs k i = hiS legs k - (i : Nat) := fun i => by simp [lfV, hp]
      rw [hp, hp']
      have hnl : ((spS legs (min (k + 1) legs.length)).map PyData.int).length = min (k + 1) legs.length := by rw [List.length_map]; exact hss
      have hsq : ¬ k + 1 < legs.length → (spS legs (min (k + 1) legs.length)).map PyData.int = (spS legs (min (k + 1 + 1) legs.length)).map .int := fun h => by rw [Nat.min_eq_right (by omega), Nat.min_eq_right (by omega)]
      generalize (spS legs (min (k + 1) legs.length)).map PyData.int = SP at *
      generalize (spS legs (min (k + 1 + 1) legs.length)).map PyData.int = SP2 at *
      repeat' array_mem_dec
      refine for_rng x (fun i ρ => ∃ j9, ρ = [some (.tuple LD, .fz), some (.int (cntS legs), .fz), some (.list [.int (loS legs k), .int (hiS legs k - (i : Nat))], .own), some (.list SP, .own), some (.list (lfI legs k i), .own), some (.int ((0 : Nat) : Int), .fz), some (.int (k : Nat), .fz), some (.int (x : Nat), .fz), some (.int 1, .fz), jk j9]) rfl ?_ ?_ ?_
      · exact ⟨j9, leafS rfl (by simp) rfl rfl rfl⟩
      · rintro i _ hi ⟨j9, rfl⟩
        have := hln i
        repeat' array_mem_dec
        refine ⟨some (.int (i : Nat)), ?_⟩
        rw [← hsc i _ rfl, hlv]
        exact leafS rfl (by omega) rfl rfl rfl
      · rintro _ ⟨j9, rfl⟩
        repeat' array_mem_dec
        refine br_dec (fun q => ?_) fun q => ?_
        · rw [if_pos (by omega)] at hhi
          rw [← hsp _ (by omega) rfl, hlo, hhi]
          repeat' array_mem_dec
          refine ⟨some (.int (k : Nat)), some (.int (x : Nat)), some (.int 1), j9, leafS rfl ?_ ?_ rfl rfl⟩
          · omega
          · congr 3; omega
        · rw [if_neg (by omega)] at hhi
          rw [← hsq (by omega), hlo, hhi]
          repeat' array_mem_dec
          exact ⟨some (.int (k : Nat)), some (.int (x : Nat)), some (.int 1), j9, leafS rfl (by omega) rfl rfl rfl⟩
    · have hp' : (k + 1) % 2 = 0 := by omega
      have hhi : hiS legs (k + 1) = hiS legs k := by rw [hiS, if_pos hp]
      have hlo : loS legs (k + 1) = loS legs k + ((x + if k + 1 < legs.length then 1 else 0 : Nat) : Int) := by rw [loS, if_pos hp, exS, hx]
      have hsp : ∀ v : Int, k + 1 < legs.length → v = loS legs (k + 1) - 1 → (spS legs (min (k + 1) legs.length)).map PyData.int ++ [.int v] = (spS legs (min (k + 1 + 1) legs.length)).map .int := fun v h hv => spI_succ legs h (by rw [hv]; simp [spV, hp'])
      have hlv : ∀ i : Nat, lfV legs k i = loS legs k + (i : Nat) := fun i => by simp [lfV, hp]
      rw [hp, hp']
      have hnl : ((spS legs (min (k + 1) legs.length)).map PyData.int).length = min (k + 1) legs.length := by rw [List.length_map]; exact hss
      have hsq : ¬ k + 1 < legs.length → (spS legs (min (k + 1) legs.length)).map PyData.int = (spS legs (min (k + 1 + 1) legs.length)).map .int := fun h => by rw [Nat.min_eq_right (by omega), Nat.min_eq_right (by omega)]
      generalize (spS legs (min (k + 1) legs.length)).map PyData.int = SP at *
      generalize (spS legs (min (k + 1 + 1) legs.length)).map PyData.int = SP2 at *
      repeat' array_mem_dec
      refine for_rng x (fun i ρ => ∃ j9, ρ = [some (.tuple LD, .fz), some (.int (cntS legs), .fz), some (.list [.int (loS legs k + (i : Nat)), .int (hiS legs k)], .own), some (.list SP, .own), some (.list (lfI legs k i), .own), some (.int ((1 : Nat) : Int), .fz), some (.int (k : Nat), .fz), some (.int (x : Nat), .fz), some (.int 0, .fz), jk j9]) rfl ?_ ?_ ?_
      · exact ⟨j9, leafS (by simp) rfl rfl rfl rfl⟩
      · rintro i _ hi ⟨j9, rfl⟩
        have := hln i
        repeat' array_mem_dec
        refine ⟨some (.int (i : Nat)), ?_⟩
        rw [← hsc i _ rfl, hlv]
        exact leafS (by omega) rfl rfl rfl rfl
      · rintro _ ⟨j9, rfl⟩
        repeat' array_mem_dec
        refine br_dec (fun q => ?_) fun q => ?_
        · rw [if_pos (by omega)] at hlo
          rw [← hsp _ (by omega) rfl, hhi, hlo]
          repeat' array_mem_dec
          refine ⟨some (.int (k : Nat)), some (.int (x : Nat)), some (.int 0), j9, leafS ?_ rfl ?_ rfl rfl⟩
          · omega
          · congr 3; omega
        · rw [if_neg (by omega)] at hlo
          rw [← hsq (by omega), hhi, hlo]
          repeat' array_mem_dec
          exact ⟨some (.int (k : Nat)), some (.int (x : Nat)), some (.int 0), j9, leafS (by omega) rfl rfl rfl rfl⟩
  · rintro _ ⟨j6, j7, j8, j9, rfl⟩
    have hss := spS_len legs legs.length
    have hll := lf_len legs legs.length
    have hoe := off_end legs
    repeat' array_mem_dec
    rw [Nat.min_eq_right (by omega)]
    unfold numS
    rw [List.map_append]
    exact ⟨rfl, rfl⟩
end TN
namespace TN
open PySem PySem.Spec PyProof.Rows L2
/-! steps_for, parted_for and the law's look at a steps numbering, as runs -/
abbrev spD : D := .tuple [.str "spine", .str "ring", .str "sides"]
abbrev ssD : D := .tuple [.str "spine", .str "sides"]
abbrev W3 : List Str := ["spine", "ring", "sides"]
abbrev W2 : List Str := ["spine", "sides"]
def kdP : Kd → Bool
  | .spine _ => true
  | .sides _ _ => true
  | _ => false
theorem kdW_ok : ∀ k : Kd, PyData.strOk (kdW k) = true
  | .spine _ => (by decide +kernel : PyData.strOk "spine" = true)
  | .ring _ => (by decide +kernel : PyData.strOk "ring" = true)
  | .sides _ _ => (by decide +kernel : PyData.strOk "sides" = true)
  | .full _ => (by decide +kernel : PyData.strOk "full" = true)
  | .wheel _ => (by decide +kernel : PyData.strOk "wheel" = true)
  | .fan _ => (by decide +kernel : PyData.strOk "fan" = true)
theorem w3_any : ∀ k : Kd, (W3.any fun z => z == kdW k) = decide (kdIx k < 3)
  | .spine _ => (by decide +kernel : (W3.any fun z => z == ("spine" : Str)) = true)
  | .ring _ => (by decide +kernel : (W3.any fun z => z == ("ring" : Str)) = true)
  | .sides _ _ => (by decide +kernel : (W3.any fun z => z == ("sides" : Str)) = true)
  | .full _ => (by decide +kernel : (W3.any fun z => z == ("full" : Str)) = false)
  | .wheel _ => (by decide +kernel : (W3.any fun z => z == ("wheel" : Str)) = false)
  | .fan _ => (by decide +kernel : (W3.any fun z => z == ("fan" : Str)) = false)
theorem w2_any : ∀ k : Kd, (W2.any fun z => z == kdW k) = kdP k
  | .spine _ => (by decide +kernel : (W2.any fun z => z == ("spine" : Str)) = true)
  | .ring _ => (by decide +kernel : (W2.any fun z => z == ("ring" : Str)) = false)
  | .sides _ _ => (by decide +kernel : (W2.any fun z => z == ("sides" : Str)) = true)
  | .full _ => (by decide +kernel : (W2.any fun z => z == ("full" : Str)) = false)
  | .wheel _ => (by decide +kernel : (W2.any fun z => z == ("wheel" : Str)) = false)
  | .fan _ => (by decide +kernel : (W2.any fun z => z == ("fan" : Str)) = false)
theorem w3_yes {k : Kd} (h : kdIx k < 3) : opNotIn (.str (kdW k)) (.tuple (W3.map .str)) = some (.val (.bool false)) := by
  rw [(in_strs _ _ (kdW_ok k) (by decide +kernel)).2, w3_any, decide_eq_true h]; rfl
theorem w2_yes {k : Kd} (h : kdP k = true) : opNotIn (.str (kdW k)) (.tuple (W2.map .str)) = some (.val (.bool false)) := by
  rw [(in_strs _ _ (kdW_ok k) (by decide +kernel)).2, w2_any, h]; rfl
theorem check3 {k : Kd} (h : KdOk k) (h3 : kdIx k < 3) : (MM_check_made [(kdD k, .fz), (spD, .fz)]).rv = some (.none, false) := by
  have h1 := check_yes (l := W3) h (w3_yes h3)
  simp only [W3, List.map] at h1
  exact h1
theorem check2 {k : Kd} (h : KdOk k) (h3 : kdP k = true) : (MM_check_made [(kdD k, .fz), (ssD, .fz)]).rv = some (.none, false) := by
  have h1 := check_yes (l := W2) h (w2_yes h3)
  simp only [W2, List.map] at h1
  exact h1
theorem in12 {n : Nat} : opIn (.int ((n : Int) % 4)) (.tuple [.int 1, .int 2]) = some (.val (.bool (kdB (.ring n)))) := by
  have h : n % 4 = 0 ∨ n % 4 = 1 ∨ n % 4 = 2 ∨ n % 4 = 3 := by omega
  show _ = some (Pl.val (PyData.bool (decide (n % 4 = 1) || decide (n % 4 = 2))))
  rcases h with h | h | h | h
  · rw [show ((n : Int) % 4) = 0 by omega, h]; rfl
  · rw [show ((n : Int) % 4) = 1 by omega, h]; rfl
  · rw [show ((n : Int) % 4) = 2 by omega, h]; rfl
  · rw [show ((n : Int) % 4) = 3 by omega, h]; rfl
def numD (k : Kd) : D := .tuple [.str "numbering", .tuple ((numK k).map .int)]
def barD : D := .tuple [.str "bar", .tuple [.str "even"]]
def stpD (k : Kd) : D := if kdB k then barD else numD k
theorem stepsfor_run : ∀ {k : Kd}, KdOk k → kdIx k < 3 → (MM_steps_for [(kdD k, .fz)]).rv = some (stpD k, false)
  | .spine legs, h, h3 => by
    have h1 := check3 h h3
    have h2 := spineS_run (legs := legs) h.1 (Nat.le_trans h.2 (by omega))
    simp only [kdD] at *
    generalize lg legs = LD at *
    refine rv_gF (in_steps_for ?_)
    repeat' (first | array_mem_dec | ((with_reducible refine TN.c_rv ?_ ?_ h1 ?_); exact rfl; exact rfl) | ((with_reducible refine TN.c_rv ?_ ?_ h2 ?_); exact rfl; exact rfl))
    exact ⟨rfl, rfl⟩
  | .sides a b, h, h3 => by
    have h1 := check3 h h3
    have h2 := sidesS_run (a := a) (b := b) (by have := h.2.2.1; omega) (by have := h.2.2.1; omega)
    simp only [kdD] at *
    refine rv_gF (in_steps_for ?_)
    repeat' (first | array_mem_dec | ((with_reducible refine TN.c_rv ?_ ?_ h1 ?_); exact rfl; exact rfl) | ((with_reducible refine TN.c_rv ?_ ?_ h2 ?_); exact rfl; exact rfl))
    exact ⟨rfl, rfl⟩
  | .ring n, h, h3 => by
    have h1 := check3 h h3
    have h2 := ringS_run (n := n) (by have := h.2; omega)
    have h4 := in12 (n := n)
    unfold stpD
    simp only [kdD] at *
    refine rv_gF (in_steps_for ?_)
    cases hb : kdB (.ring n) with
    | true =>
      rw [hb] at h4
      repeat' (first | array_mem_dec | ((with_reducible refine TN.c_rv ?_ ?_ h1 ?_); exact rfl; exact rfl) | ((with_reducible refine TN.c_rv ?_ ?_ h2 ?_); exact rfl; exact rfl))
      exact ⟨rfl, rfl⟩
    | false =>
      rw [hb] at h4
      repeat' (first | array_mem_dec | ((with_reducible refine TN.c_rv ?_ ?_ h1 ?_); exact rfl; exact rfl) | ((with_reducible refine TN.c_rv ?_ ?_ h2 ?_); exact rfl; exact rfl))
      exact ⟨rfl, rfl⟩
theorem eq_nilT (ts : List (Nat × Nat)) : opEq (.tuple (ts.map tieD)) (.tuple []) = some (.val (.bool (decide (ts = [])))) := by
  cases ts with
  | nil => exact opEq_tints [] []
  | cons t ts => rw [opEq_ties_nil]; rfl
theorem parted_run2 {k : Kd} (h : KdOk k) (h3 : kdP k = true) (h4 : kdT k ≠ []) : (MM_parted_for [(kdD k, .fz)]).rv = some (.tuple ((numK k).map .int), false) := by
  have h1 := check2 h h3
  have h2 := webfor_run h
  have h5 := stepsfor_run h (by cases k <;> first | (simp [kdIx]; done) | (simp [kdP] at h3))
  have h6 : stpD k = numD k := by unfold stpD; cases k <;> first | rfl | (simp [kdP] at h3)
  have h7 : opIx (kdWeb k) (.int 1) = some (.val (.tuple ((sortT (kdT k)).map tieD))) := rfl
  have h8 := eq_nilT (sortT (kdT k))
  have h9 : ¬ sortT (kdT k) = [] := fun z => by
    have := (sortT_perm (kdT k)).length_eq
    rw [z] at this
    exact h4 (List.length_eq_zero_iff.mp this.symm)
  rw [decide_eq_false h9] at h8
  rw [h6] at h5
  have h10 : opIx (numD k) (.int 1) = some (.val (.tuple ((numK k).map .int))) := rfl
  generalize kdD k = KD at *
  generalize numD k = ND at *
  generalize kdWeb k = WD at *
  generalize (sortT (kdT k)).map tieD = TD at *
  refine rv_gF (in_parted_for ?_)
  repeat' (first | array_mem_dec | ((with_reducible refine TN.c_rv ?_ ?_ h1 ?_); exact rfl; exact rfl) | ((with_reducible refine TN.c_rv ?_ ?_ h2 ?_); exact rfl; exact rfl) | ((with_reducible refine TN.c_rv ?_ ?_ h5 ?_); exact rfl; exact rfl))
  exact ⟨rfl, rfl⟩
theorem sid_mem {a b K : Nat} {t : Nat × Nat} (h : t ∈ sidT a b K) : t.1 < K ∧ ∃ j, j < b ∧ t.2 = a + j := by
  unfold sidT at h
  simp only [List.mem_flatMap, List.mem_map, List.mem_range] at h
  obtain ⟨i, hi, j, hj, rfl⟩ := h
  exact ⟨hi, j, hj, rfl⟩
theorem legs_one {legs : List Nat} (h1 : 1 ≤ legs.length) (h3 : ¬ 2 ≤ legs.length + legs.sum) : legs = [0] := by
  rcases legs with _ | ⟨x, _ | ⟨y, l⟩⟩
  · simp at h1
  · simp at h3; rw [show x = 0 by omega]
  · exfalso; simp at h3; omega
theorem kd_cut : ∀ {k : Kd}, KdOk k → kdP k = true → kdT k ≠ [] → ∃ lo : Int, ∀ t ∈ kdT k, min ((numK k).getD t.1 0) ((numK k).getD t.2 0) ≤ lo ∧ lo < max ((numK k).getD t.1 0) ((numK k).getD t.2 0)
  | .spine legs, ⟨h1, h2⟩, _, h4 => by
    by_cases h3 : 2 ≤ legs.length + legs.sum
    · have p := spine_ptd legs h1 h3
      exact ⟨_, fun t ht => p.cut t ((perm_spine legs).mem_iff.mpr ht)⟩
    · rw [legs_one h1 h3] at h4; exact absurd rfl h4
  | .sides a b, ⟨h1, h2, h3, h4⟩, _, _ => by
    refine ⟨(a : Int) - 1, fun t ht => ?_⟩
    obtain ⟨h5, j, h6, h7⟩ := sid_mem ht
    have e1 : (numK (.sides a b)).getD t.1 0 = (t.1 : Int) := side_lo h5
    have e2 : (numK (.sides a b)).getD t.2 0 = (a : Int) * ((j : Int) + 1) := by rw [h7]; exact side_hi h6
    have e3 : (a : Int) * 1 ≤ (a : Int) * ((j : Int) + 1) := Int.mul_le_mul_of_nonneg_left (by omega) (by omega)
    rw [e1, e2]
    omega
end TN
namespace TN
open PySem PySem.Spec PyProof.Rows L2
/-! kinds compared, plainly -/
end TN
namespace TNO
open TN
open PySem PySem.Spec PyProof.Rows L2
/-! comprehensions over an own list, told from their end -/
end TNO
namespace TN
open PySem PySem.Spec PyProof.Rows L2
end TN
namespace TN
open PySem PySem.Spec PyProof.Rows L2
abbrev cc_check_folded : CS := (cIf (cTst (cBin opGt (cVar 0) (cLit (.int 30))))
  (cRaiseA "TooGreat" ["many", "most"] (cCons (cVar 0) (cCons (cLit (.int 30)) cNil)))
  cSkip)
def MM_check_folded : FM := mkF 1 1 cc_check_folded
theorem in_check_folded {x0 : D} {m0 : Md} {T : D → Bool → List Slot → Prop} {E : Xc → List Slot → Prop} (h : gS (cc_check_folded [some (x0, m0)]) (fun ρ => T .none false (ρ.take 1)) (fun d fr ρ => T d fr (ρ.take 1)) (fun x ρ => E x (ρ.take 1))) : gF (MM_check_folded [(x0, m0)]) T E := gF_mk rfl h
abbrev ee_round_copies_1 : CE := (cBin opMod (cBin opAdd (cVar 3) (cVar 2)) (cVar 1))
abbrev ee_round_copies_2 : CE := (cFn fTuple (cCons (cComp (cIt (cVar 0)) (gNm 3) tTrue ee_round_copies_1 [3]) cNil))
abbrev cc_round_copies : CS := (cRet (cComp (cRng1 (cVar 1)) (gNm 2) tTrue ee_round_copies_2 [2]))
def MM_round_copies : FM := mkF 2 4 cc_round_copies
theorem in_round_copies {x0 x1 : D} {m0 m1 : Md} {T : D → Bool → List Slot → Prop} {E : Xc → List Slot → Prop} (h : gS (cc_round_copies [some (x0, m0), some (x1, m1), none, none]) (fun ρ => T .none false (ρ.take 2)) (fun d fr ρ => T d fr (ρ.take 2)) (fun x ρ => E x (ρ.take 2))) : gF (MM_round_copies [(x0, m0), (x1, m1)]) T E := gF_mk rfl h
abbrev cc_cut_by : CS := (cSeq (cDrop (cCall MM_check_folded (cCons (cFn fLen (cCons (cBin opIx (cVar 0) (cLit (.int 1))) cNil)) cNil)))
  (cRet (cCall MM_round_copies (cCons (cVar 1) (cCons (cBin opAdd (cBin opMul (cLit (.int 2)) (cFn fLen (cCons (cBin opIx (cVar 0) (cLit (.int 1))) cNil))) (cLit (.int 1))) cNil)))))
def MM_cut_by : FM := mkF 2 2 cc_cut_by
theorem in_cut_by {x0 x1 : D} {m0 m1 : Md} {T : D → Bool → List Slot → Prop} {E : Xc → List Slot → Prop} (h : gS (cc_cut_by [some (x0, m0), some (x1, m1)]) (fun ρ => T .none false (ρ.take 2)) (fun d fr ρ => T d fr (ρ.take 2)) (fun x ρ => E x (ρ.take 2))) : gF (MM_cut_by [(x0, m0), (x1, m1)]) T E := gF_mk rfl h

/-! ### copies that go round, plainly -/
def rotI (M t : Nat) (x : Int) : Int := (x + t) % M
def prT (M t : Nat) (p : Int × Int) : Nat × Nat := ((min (rotI M t p.1) (rotI M t p.2)).toNat, (max (rotI M t p.1) (rotI M t p.2)).toNat)
theorem rot_cases {M t : Nat} {x : Int} (h0 : 0 ≤ x) (h1 : x < M) (ht : t < M) : 0 ≤ rotI M t x ∧ rotI M t x < M ∧ (rotI M t x = x + t ∨ rotI M t x = x + t - M) := by
  unfold rotI
  have h2 := Int.emod_nonneg (x + t) (b := (M : Int)) (by omega)
  have h3 := Int.emod_lt_of_pos (x + t) (b := (M : Int)) (by omega)
  refine ⟨h2, h3, ?_⟩
  by_cases h : x + t < M
  · rw [Int.emod_eq_of_lt (by omega) h]; exact .inl rfl
  · have e : (x + t) % (M : Int) = (x + t - M) % (M : Int) := by rw [Int.sub_emod_right]
    rw [e, Int.emod_eq_of_lt (by omega) (by omega)]; exact .inr rfl
structure RP (C : Nat) (P : List (Int × Int)) : Prop where
  rg : ∀ p ∈ P, (0 ≤ p.1 ∧ p.1 ≤ C) ∧ (0 ≤ p.2 ∧ p.2 ≤ C) ∧ p.1 ≠ p.2
  df : P.Pairwise fun p q => absI (p.1 - p.2) ≠ absI (q.1 - q.2)
section
variable {C M t t' : Nat} {p q : Int × Int}
theorem mm_eq {a b a' b' : Int} (h0 : 0 ≤ a ∧ 0 ≤ b ∧ 0 ≤ a' ∧ 0 ≤ b') (h1 : (min a b).toNat = (min a' b').toNat) (h2 : (max a b).toNat = (max a' b').toNat) : (a = a' ∧ b = b') ∨ (a = b' ∧ b = a') := by omega
theorem abs_eq {a b : Int} (h : a = b ∨ a = -b) : absI a = absI b := by unfold absI; split <;> split <;> omega
theorem pr_step (hM : M = 2 * C + 1) (hp : (0 ≤ p.1 ∧ p.1 ≤ C) ∧ (0 ≤ p.2 ∧ p.2 ≤ C) ∧ p.1 ≠ p.2) (hq : (0 ≤ q.1 ∧ q.1 ≤ C) ∧ (0 ≤ q.2 ∧ q.2 ≤ C) ∧ q.1 ≠ q.2) (ht : t < M) (ht' : t' < M) (h : prT M t p = prT M t' q) : absI (p.1 - p.2) = absI (q.1 - q.2) := by
  have a1 := rot_cases (M := M) (t := t) hp.1.1 (by omega) ht
  have a2 := rot_cases (M := M) (t := t) hp.2.1.1 (by omega) ht
  have a3 := rot_cases (M := M) (t := t') hq.1.1 (by omega) ht'
  have a4 := rot_cases (M := M) (t := t') hq.2.1.1 (by omega) ht'
  unfold prT at h
  obtain ⟨h1, h2⟩ := Prod.mk.inj h
  refine abs_eq ?_
  rcases mm_eq ⟨a1.1, a2.1, a3.1, a4.1⟩ h1 h2 with ⟨e1, e2⟩ | ⟨e1, e2⟩
  · left; omega
  · right; omega
theorem pr_turn (hM : M = 2 * C + 1) (hp : (0 ≤ p.1 ∧ p.1 ≤ C) ∧ (0 ≤ p.2 ∧ p.2 ≤ C) ∧ p.1 ≠ p.2) (ht : t < M) (ht' : t' < M) (h : prT M t p = prT M t' p) : t = t' := by
  have a1 := rot_cases (M := M) (t := t) hp.1.1 (by omega) ht
  have a2 := rot_cases (M := M) (t := t) hp.2.1.1 (by omega) ht
  have a3 := rot_cases (M := M) (t := t') hp.1.1 (by omega) ht'
  have a4 := rot_cases (M := M) (t := t') hp.2.1.1 (by omega) ht'
  unfold prT at h
  obtain ⟨h1, h2⟩ := Prod.mk.inj h
  rcases mm_eq ⟨a1.1, a2.1, a3.1, a4.1⟩ h1 h2 with ⟨e1, e2⟩ | ⟨e1, e2⟩ <;> omega
end
def allP (M : Nat) (P : List (Int × Int)) (k : Nat) : List (Nat × Nat) := (List.range k).flatMap fun t => P.map (prT M t)
theorem pw_inj {α : Type} {l : List α} {f : α → Int} (h : l.Pairwise fun p q => f p ≠ f q) : ∀ {p q}, p ∈ l → q ∈ l → f p = f q → p = q := by
  induction l with
  | nil => intro p q hp; cases hp
  | cons a l ih =>
    obtain ⟨h1, h2⟩ := List.pairwise_cons.mp h
    intro p q hp hq e
    rcases List.mem_cons.mp hp with h3 | h3
    · rcases List.mem_cons.mp hq with h4 | h4
      · rw [h3, h4]
      · subst h3; exact absurd e (h1 q h4)
    · rcases List.mem_cons.mp hq with h4 | h4
      · subst h4; exact absurd e.symm (h1 p h3)
      · exact ih h2 h3 h4 e
theorem RP.inj {C : Nat} {P : List (Int × Int)} (r : RP C P) {p q : Int × Int} (hp : p ∈ P) (hq : q ∈ P) (h : absI (p.1 - p.2) = absI (q.1 - q.2)) : p = q := pw_inj (f := fun p : Int × Int => absI (p.1 - p.2)) r.df hp hq h
theorem allP_nd {C M : Nat} {P : List (Int × Int)} (hM : M = 2 * C + 1) (r : RP C P) : (allP M P M).Nodup := by
  unfold allP List.Nodup
  rw [List.pairwise_flatMap]
  refine ⟨fun t ht => ?_, ?_⟩
  · rw [List.pairwise_map]
    have ht := List.mem_range.mp ht
    exact List.Pairwise.imp_of_mem (fun {p q} hp hq hne e => hne (pr_step hM (r.rg p hp) (r.rg q hq) ht ht e)) r.df
  · refine List.Pairwise.imp_of_mem ?_ (List.nodup_range (n := M))
    intro t t' ht ht' hne x hx y hy e
    have ht := List.mem_range.mp ht
    have ht' := List.mem_range.mp ht'
    obtain ⟨p, hp, rfl⟩ := List.mem_map.mp hx
    obtain ⟨q, hq, rfl⟩ := List.mem_map.mp hy
    have := r.inj hp hq (pr_step hM (r.rg p hp) (r.rg q hq) ht ht' e)
    subst this
    exact hne (pr_turn hM (r.rg p hp) ht ht' e)
def pairsN (N : List Int) (ts : List (Nat × Nat)) : List (Int × Int) := ts.map fun u => (N.getD u.1 0, N.getD u.2 0)
theorem Gr.rp {n : Nat} {ts : List (Nat × Nat)} {N : List Int} (g : Gr n ts N) : RP ts.length (pairsN N ts) := by
  have hln := g.len
  have hm : ∀ u, u < n → N.getD u 0 ∈ N := fun u hu => by
    rw [List.getD_eq_getElem?_getD, List.getElem?_eq_getElem (by omega)]; simp
  refine ⟨fun p hp => ?_, ?_⟩
  · unfold pairsN at hp
    obtain ⟨u, hu, rfl⟩ := List.mem_map.mp hp
    have h1 := g.lt u hu
    refine ⟨g.rng _ (hm _ h1.1), g.rng _ (hm _ h1.2), fun e => ?_⟩
    have h2 : absI (N.getD u.1 0 - N.getD u.2 0) ∈ steps N ts := List.mem_map.mpr ⟨u, hu, rfl⟩
    have h3 := rg_mem.mp (g.st.mem_iff.mp h2)
    simp only at e
    rw [e] at h3
    unfold absI at h3
    split at h3 <;> omega
  · have h1 : (steps N ts).Nodup := g.st.nodup_iff.mpr (rg_nodup _ _)
    unfold steps List.Nodup at h1
    unfold pairsN
    rw [List.pairwise_map] at h1 ⊢
    exact h1
/-! ### .. and as runs -/
theorem folded_ok {c : Nat} (h : c ≤ 30) : (MM_check_folded [(.int (c : Nat), .fz)]).rv = some (.none, false) := by
  refine rv_gF (in_check_folded ?_)
  repeat' array_mem_dec
  exact ⟨rfl, rfl⟩
def copiesD (N : List Int) (M : Nat) : List D := (List.range M).map fun t => .tuple ((N.map (rotI M t)).map .int)
theorem round_run2 {N : List Int} {M : Nat} (h1 : 1 ≤ M) (hM : M ≤ 1000) (hN : N.length ≤ 1000) : (MM_round_copies [(.tuple (N.map .int), .fz), (.int (M : Nat), .fz)]).rv = some (.list (copiesD N M), true) := by
  refine rv_gF (in_round_copies ?_)
  repeat' array_mem_dec
  refine TN.cp_rng (M) (fun t => .tuple ((N.map (rotI M t)).map .int)) (by (first | omega | exact rfl)) (by (first | omega | (simp; done) | (simp; omega))) (by (first | exact rfl | (repeat (first | exact TN.wOk_nil | ((apply TN.wOk_cons); exact rfl; (first | exact TN.okW_none | exact TN.okW_fz | exact TN.okW_jk | assumption)))))) (by (repeat (first | exact wipe_nil | apply wipe_cons | exact st0 | apply stS))) ?_ ?_
  · intro t ht
    repeat' array_mem_dec
    refine TN.cp_map (N) (.int) (fun x => .int (rotI M t x)) rfl (by (first | omega | (simp; done) | (simp; omega))) (by (first | exact rfl | (repeat (first | exact TN.wOk_nil | ((apply TN.wOk_cons); exact rfl; (first | exact TN.okW_none | exact TN.okW_fz | exact TN.okW_jk | assumption)))))) (by (repeat (first | exact wipe_nil | apply wipe_cons | exact st0 | apply stS))) ?_ ?_
    · intro x hx
      repeat' array_mem_dec
      exact ⟨rfl, rfl⟩
    · repeat' array_mem_dec
      rw [List.map_map]
      exact ⟨rfl, rfl⟩
  · repeat' array_mem_dec
    exact ⟨rfl, rfl⟩
theorem cutby_run {n : Nat} {ts : List (Nat × Nat)} {N : List Int} (hw : WebOk n ts) (hl : ts.length ≤ 30) (hN : N.length = n) : (MM_cut_by [(webD n ts, .fz), (.tuple (N.map .int), .fz)]).rv = some (.list (copiesD N (2 * ts.length + 1)), true) := by
  have h1 := folded_ok hl
  have hnl := hw.nl
  have h2 := round_run2 (N := N) (M := 2 * ts.length + 1) (by omega) (by omega) (by omega)
  rw [show ((2 * ts.length + 1 : Nat) : Int) = 2 * (ts.length : Int) + 1 by omega] at h2
  generalize N.map PyData.int = NI at *
  refine rv_gF (in_cut_by ?_)
  repeat' (first | array_mem_dec | ((with_reducible refine TN.c_rv ?_ ?_ h1 ?_); exact rfl; exact rfl) | ((with_reducible refine TN.c_rvT ?_ ?_ h2 ?_); exact rfl; exact rfl))
  exact ⟨rfl, rfl⟩
end TN
namespace TNO
open TN
open PySem PySem.Spec PyProof.Rows L2
/-! i in range(..), told from its end -/
end TNO
namespace TN
open PySem PySem.Spec PyProof.Rows L2
theorem em_cases {M : Nat} {x : Int} (h0 : -(M : Int) ≤ x) (h1 : x < 2 * (M : Int)) (hM : 0 < M) : 0 ≤ x % (M : Int) ∧ x % (M : Int) < M ∧ (x % (M : Int) = x ∨ x % (M : Int) = x - M ∨ x % (M : Int) = x + M) := by
  have h2 := Int.emod_nonneg x (b := (M : Int)) (by omega)
  have h3 := Int.emod_lt_of_pos x (b := (M : Int)) (by omega)
  refine ⟨h2, h3, ?_⟩
  by_cases h : x < 0
  · have e : x % (M : Int) = (x + M) % (M : Int) := by rw [Int.add_emod_right]
    rw [e, Int.emod_eq_of_lt (by omega) (by omega)]; exact .inr (.inr rfl)
  · by_cases h4 : x < M
    · rw [Int.emod_eq_of_lt (by omega) h4]; exact .inl rfl
    · have e : x % (M : Int) = (x - M) % (M : Int) := by rw [Int.sub_emod_right]
      rw [e, Int.emod_eq_of_lt (by omega) (by omega)]; exact .inr (.inl rfl)
theorem sort2 {a b c d : Int} (h : (a = c ∧ b = d) ∨ (a = d ∧ b = c)) : sortI [a, b] = sortI [c, d] := by
  rcases h with ⟨rfl, rfl⟩ | ⟨rfl, rfl⟩
  · rfl
  · exact (sortI_iff (sortI_pw _)).mpr ((List.Perm.swap b a []).trans (sortI_perm [b, a]).symm)
/-- the first one of some -/
theorem first_of {α : Type} {P : α → Prop} [DecidablePred P] : ∀ {l : List α}, (∃ x ∈ l, P x) → ∃ pre x post, l = pre ++ x :: post ∧ (∀ y ∈ pre, ¬ P y) ∧ P x
  | [], h => by obtain ⟨x, hx, _⟩ := h; cases hx
  | a :: l, h => by
    by_cases ha : P a
    · exact ⟨[], a, l, rfl, by simp, ha⟩
    · obtain ⟨x, hx, hp⟩ := h
      rcases List.mem_cons.mp hx with rfl | hx
      · exact absurd hp ha
      · obtain ⟨pre, y, post, h1, h2, h3⟩ := first_of ⟨x, hx, hp⟩
        refine ⟨a :: pre, y, post, by rw [h1]; rfl, ?_, h3⟩
        intro z hz
        rcases List.mem_cons.mp hz with rfl | hz
        · exact ha
        · exact h2 z hz
end TN
namespace TN
open PySem PySem.Spec PyProof.Rows L2
theorem gF_mkE {n m : Nat} {c : CS} {as : List (D × Md)} {ρ0 : Rho} {T : D → Bool → List Slot → Prop} {E : Xc → List Slot → Prop} (hl : as.length = n) (e : as.map some ++ List.replicate (m - n) none = ρ0) (h : gS (c ρ0) (fun ρ => T .none false (ρ.take n)) (fun d fr ρ => T d fr (ρ.take n)) (fun x ρ => E x (ρ.take n))) : gF (mkF n m c as) T E := by
  subst e
  exact gF_mk hl h
end TN
namespace TN
open PySem PySem.Spec PyProof.Rows L2
/-! the sums of round numberings, turned and so often -/
section
variable {n : Nat} {ts : List (Nat × Nat)} {ns : List Int}
structure RdN (n : Nat) (ts : List (Nat × Nat)) (ns : List Int) : Prop where
  pos : 0 < ts.length
  len : ns.length = n
  rng : ∀ x ∈ ns, 0 ≤ x ∧ x < (ts.length : Int)
  un : (ddI ns).length + (if treeB n ts = true then 1 else 0) = n
  su : (sumsR ts ns).Perm (rgI 0 (ts.length : Int))
end
/-! ### bars of round numberings, plainly -/
section
variable {n : Nat} {ts : List (Nat × Nat)} {ns : List Int}
end
end TN
namespace TN
open PySem PySem.Spec PyProof.Rows L2
/-! ### how many pieces there are, plainly -/
end TN
namespace TN
open PySem PySem.Spec PyProof.Rows L2
/-! ### trees have two sides; pieces hold all places, once; plainly -/
end TN
namespace TN
open PySem PySem.Spec PyProof.Rows L2
/-! ### kinds by their words, plainly -/
def hubB (n : Nat) (ts : List (Nat × Nat)) : List Nat := (List.range n).filter fun k => decide (deg ts k + 1 = n)
end TN
namespace TN
open PySem PySem.Spec PyProof.Rows L2
/-! ### s.upper() -/
end TN
namespace TN
open PySem PySem.Spec PyProof.Rows L2
/-! ### kind_form of a thing of any form -/
end TN
namespace TN
open PySem PySem.Spec PyProof.Rows L2
/-! ### kinds by form, too great ones too -/
end TN
namespace TN
open PySem PySem.Spec PyProof.Rows L2
/-! ### kind_good of a thing of any form -/
structure Thg (t : D) : Prop where
  wd : ∀ w rest, t = .tuple (.str w :: rest) → PyData.strOk w = true ∧ rest.length ≤ 1000 ∧ ∀ ls, .tuple ls ∈ rest → ls.length ≤ 1000
  ln : ∀ ls, t = .tuple ls → ls.length ≤ 1000
  nd : ∀ b rest, t ≠ .tuple (.dict b :: rest)
end TN
namespace TNO
open TN
open PySem PySem.Spec PyProof.Rows L2
/-! d.get(k, z), told from its end -/
end TNO
namespace TN
open PySem PySem.Spec PyProof.Rows L2
end TN
/-! ### enumerate(reversed(xs)) -/
namespace PySem
open Sem (wp)
open AutoSeq1 (wpAny_loadPart')
section
variable {prog : Program} {w : World} {A : Around} {E : Value → Shared → Prop} {s : Shared}
end
section
variable {prog : Program} {w : World} {A : Around} {E : Value → Shared → Prop} {s : Shared}
end
end PySem
namespace TN
open PySem PySem.Spec PyProof.Rows L2
section
variable {X : Cx} {e : Expr} {c : CE} {p pos : Pos}
end
end TN
namespace TNO
open PySem PySem.Spec PyProof.Rows L2 TN
end TNO
namespace TN
open PySem PySem.Spec PyProof.Rows L2
end TN
/-! ### zip of a list with a tuple, of a tuple with a list (printed by mkL90.py) -/
namespace PySem
open Sem (wp)
section
variable {prog : Program} {w : World} {A : Around} {E : Value → Shared → Prop} {s : Shared}
end
end PySem
namespace PySem
open Sem (wp)
section
variable {prog : Program} {w : World} {A : Around} {E : Value → Shared → Prop} {s : Shared}
end
end PySem
namespace TN
open PySem PySem.Spec PyProof.Rows L2
end TN
namespace TN
open PySem PySem.Spec PyProof.Rows L2
end TN
namespace TN
open PySem PySem.Spec PyProof.Rows L2
end TN
namespace TN
open PySem PySem.Spec PyProof.Rows L2
end TN
namespace TN
open PySem PySem.Spec PyProof.Rows L2
section
variable {X : Cx} {e e2 : Expr} {c c2 : CE} {p pos : Pos}
end
end TN
namespace TNO
open PySem PySem.Spec PyProof.Rows L2 TN
end TNO
namespace TN
open PySem PySem.Spec PyProof.Rows L2
end TN
/-! ### set(a) == set(b), of whole numbers -/
namespace PySem
open Sem (wp)
section
variable {prog : Program} {w : World} {A : Around} {E : Value → Shared → Prop} {s : Shared}
end
end PySem
namespace TN
open PySem PySem.Spec PyProof.Rows L2
section
variable {X : Cx} {a b : Expr} {ca cb : CE} {p p2 q q2 pos : Pos}
end
end TN
namespace TNO
open PySem PySem.Spec PyProof.Rows L2 TN
end TNO
namespace TN
open PySem PySem.Spec PyProof.Rows L2
end TN
/-! ### min(a, b, c) -/
namespace TN
open PySem PySem.Spec PyProof.Rows L2
end TN
namespace TN
open PySem PySem.Spec PyProof.Rows L2
/-! ### bars -/
section
variable {n : Nat} {ts : List (Nat × Nat)}
inductive Br where
  | plc
  | sh (s : Nat)
  | al
def bars (c : Nat) : List Br := [.plc] ++ (List.range (c - 1)).map (fun i => .sh (2 + i)) ++ [.al]
/-! ### round_from, by the package -/
end
/-! ### round_for -/
end TN
namespace TN
open PySem PySem.Spec PyProof.Rows L2
/-! ### the laws' look at bars -/
def lcI (n : Nat) (ts : List (Nat × Nat)) : List Int := (List.range n).map fun k => ((deg ts k : Nat) : Int)
section
variable {n : Nat} {ts : List (Nat × Nat)}
end
end TN
namespace TN
open PySem PySem.Spec PyProof.Rows L2
section
variable {n : Nat} {ts : List (Nat × Nat)}
end
/-! ### the webs of the laws on bars -/
structure Bwb (n : Nat) (ts : List (Nat × Nat)) : Prop where
  ok : WebOk n ts
  ne : ∀ t ∈ ts, t.1 ≠ t.2
  l1 : 1 ≤ ts.length
  lu : ts.length ≤ 200
end TN
namespace TNO
open PySem PySem.Spec PyProof.Rows L2 TN
end TNO
namespace TN
open PySem PySem.Spec PyProof.Rows L2
end TN
namespace TN
open PySem PySem.Spec PyProof.Rows L2
/-! ### orders -/
/-! ### total_span -/
end TN
namespace TN
open PySem PySem.Spec PyProof.Rows L2
/-! ### total numberings -/
section
variable {n : Nat} {ts : List (Nat × Nat)} {P T : List Int}
/-! bars -/
inductive TBr where
  | sh (s : Nat)
  | tie
end

end TN
/-! ### isinstance(x, (list, tuple)) -/
namespace TN
open PySem PySem.Spec PyProof.Rows L2
inductive LTv (K : PySem.W.Frag) (H : Hp) : V → Bool → Prop
  | non : LTv K H .non false
  | bl (b : Bool) : LTv K H (.bl b) false
  | int (i : Int) : LTv K H (.int i) false
  | str (x : Str) : LTv K H (.str x) false
  | lst {a : Addr} {xs : List V} : SqL K H a xs → LTv K H (.ref a) true
  | tup {a : Addr} {xs : List V} : SqT K H a xs → LTv K H (.ref a) true
  | dct {a : Addr} : ((∃ kvs, H a = some (.dK kvs)) ∨ ∃ rs, H a = some (dtO a rs)) → LTv K H (.ref a) false
section
variable {X : Cx} {e : Expr} {te : TE} {c : CE} {p p2 p3 pos tpos : Pos}
end
end TN
namespace TN
open PySem PySem.Spec PyProof.Rows L2
/-! ### unlike numberings: the package's ways -/
section
variable {n : Nat} {ts : List (Nat × Nat)}
/-- the hubs -/
def hubL (n : Nat) (ts : List (Nat × Nat)) : List Nat := (lcI n ts).zipIdx.filterMap fun p => if decide (p.1 = (n : Int) - 1) = true then some p.2 else none
end
/-! the laws' sums -/
section
variable {n : Nat} {ts : List (Nat × Nat)}
end

end TN
namespace TN
open PySem PySem.Spec PyProof.Rows L2
section
variable {n : Nat} {ts : List (Nat × Nat)}
end
end TN
namespace TN
open PySem PySem.Spec PyProof.Rows L2
/-! ### numbers put by a hub: the sums are unlike -/
section
variable {n : Nat} {ts : List (Nat × Nat)}
/-- a web with a hub, as the package takes it -/
structure HubW (n : Nat) (ts : List (Nat × Nat)) (hb : Nat) : Prop where
  n3 : 3 ≤ n
  lt : ∀ t ∈ ts, t.1 < t.2 ∧ t.2 < n
  nd : ts.Nodup
  hn : hb < n
  dg : deg ts hb + 1 = n
variable {hb : Nat}
end
end TN
namespace TN
open PySem PySem.Spec PyProof.Rows L2
/-! ### unlike_by by a hub, unlike_for of kinds -/
section
variable {n : Nat} {ts : List (Nat × Nat)} {hb : Nat}
theorem hubL_B : hubL n ts = hubB n ts := by
  unfold hubL hubB lcI
  have e : ((List.range n).map fun k => ((deg ts k : Nat) : Int)).zipIdx = (List.range n).map fun k => (((deg ts k : Nat) : Int), k) := by
    apply List.ext_getElem
    · simp
    · intro i h1 h2
      simp
  rw [e, List.filterMap_map]
  generalize List.range n = R
  induction R with
  | nil => rfl
  | cons k R ih =>
    rw [List.filterMap_cons, List.filter_cons]
    simp only [Function.comp_apply]
    by_cases h : deg ts k + 1 = n
    · have h1 : ((deg ts k : Nat) : Int) = (n : Int) - 1 := by omega
      rw [decide_eq_true h, decide_eq_true h1]
      simpa using ih
    · have h1 : ¬ ((deg ts k : Nat) : Int) = (n : Int) - 1 := by omega
      rw [decide_eq_false h, decide_eq_false h1]
      simpa using ih
theorem HubW.of (h3 : 3 ≤ n) (lt : ∀ t ∈ ts, t.1 < t.2 ∧ t.2 < n) (nd : ts.Nodup) {r : List Nat} (hh : hubL n ts = hb :: r) : HubW n ts hb := by
  have hm : hb ∈ hubB n ts := by rw [← hubL_B, hh]; exact List.mem_cons_self ..
  obtain ⟨h1, h2⟩ := List.mem_filter.mp hm
  exact ⟨h3, lt, nd, List.mem_range.mp h1, of_decide_eq_true h2⟩
end
section
variable {n : Nat} {ts : List (Nat × Nat)}
end
end TN
namespace TN
open PySem PySem.Spec PyProof.Rows L2

/-! ### a comprehension over a name's own dict of tuple keys: the dict is held and locked -/
section
variable {K : PySem.W.Frag} {L : L2.St} {B G G1 H H1 : Hp} {σ : L2.St} {ρ : Rho} {a : Addr} {o : HO} {xs : List V} {ds : List D} {j : Nat} {m : Md}
end
section
variable {X : Cx} {elt tg iter : Expr} {ifs : List Expr} {scope : Scope} {own : List (Str × Nat)} {pos : Pos} {ci : CI} {g : D → Rho → Option Rho} {t : CB} {e : CE}
end
end TN
namespace TNO
open TN
open PySem PySem.Spec PyProof.Rows L2
/-! comprehensions over an own dict of ties, told from their end -/
end TNO
namespace TN
open PySem PySem.Spec PyProof.Rows L2
/-! ### the laws' webs with a hub -/
end TN
namespace TN
open PySem PySem.Spec PyProof.Rows L2
/-! ### numbers handed to unlike_by: lists, tuples, in any order; what is none -/
end TN
/-! ### t.index(k), t a tuple of whole numbers, k one of them -/
namespace TN
open PySem PySem.Spec PyProof.Rows L2
def isTupl : D → Bool
  | .tuple _ => true
  | _ => false
def cMtT (f : D → List D → Option Pl) (co : CE) (ca : CA) : CE := fun ρ => (co ρ).bind fun p ρ1 => match look p ρ1 with
  | some d0 => if isTupl d0 = true then (ca ρ1).bind fun ps ρ2 => match look p ρ2, lookA ps ρ2 with
    | some d, some ds => .ofOpt (f d ds) ρ2
    | _, _ => .bad
    else .bad
  | none => .bad
theorem isTupl_ok {K : PySem.W.Frag} {G H : Hp} {x : V} {d : D} (s : Same G H) (h : Vw K G H x d) (e : isTupl d = true) : KtV K x H := by
  cases d <;> simp only [isTupl] at e <;> try (cases e; done)
  obtain ⟨a, xs, rfl, h1, _, _⟩ := h.tup s
  obtain ⟨o, h1, h2⟩ := h1
  exact ⟨a, o, xs, rfl, s _ _ h1, h2⟩
section
variable {X : Cx} {o e : Expr} {es : List Expr} {co : CE} {ca : CA} {apos cpos : Pos} {id : String} {name : Str} {r : V → List V → Hp → VK → Prop} {f : D → List D → Option Pl}
theorem sx_mtT (pa : PlainAttrs "tuple") (slot : PySem.Slot "tuple" name id) (hty : typeOf (.builtin id) = pure (.type "method_descriptor")) (hm : MtR X id r) (hr : MtOk X.K "tuple" r f) (ho : SX X o co) (ha : SA X (e :: es) ca)
    (hbase : attributeBase o name X.env (eval o X.env) = eval o X.env := by rfl)
    (hfew : ((backTo cpos (starEach (e :: es) X.env)).all (fun x => !x.1) && (backToKw cpos (keywordEach [] X.env)).all (fun x => x.1.isSome)
      && decide ((e :: es).length + ([] : List Keyword).length + (if ([] : List Keyword).isEmpty then 0 else 1) < 30)) = true := by rfl)
    (hline : (apos.endLine == cpos.line) = true := by rfl) (hs : starEach (e :: es) X.env = (false, eval e X.env) :: starEach es X.env := by rfl) (hplain : (backTo cpos (starEach es X.env)).any (·.1) = false := by rfl) :
    SX X (.Call (.Attribute o name apos) (e :: es) [] cpos) (cMtT f co ca) := fun W tk =>
  PEimp (pe_bmK pa slot hty hm (ho W tk) (ha W tk) hbase hfew hline hs hplain) (by
  rintro σ H Q ⟨L, ρ, G, B, rel, h⟩
  refine ⟨L, ρ, G, B, rel, (Got.bind h).mono ?_⟩
  rintro x H1 ⟨p, ρ1, G1, _, rel1, _, fx1, h1⟩
  cases e1 : look p ρ1 with
  | none => simp only [e1] at h1; exact h1.elim
  | some d0 =>
    simp only [e1] at h1
    by_cases hy : isTupl d0 = true
    · rw [if_pos hy] at h1
      refine ⟨isTupl_ok rel1.sub (fx1.look rel1 e1) hy, L, ρ1, G1, B, rel1, (Got.bindA h1).mono ?_⟩
      rintro xs H2 ⟨ps, ρ2, G2, _, rel2, ext2, fx2, h2⟩
      split at h2
      · rename_i d ds e2 e3
        cases e4 : f d ds with
        | none => simp only [e4] at h2; exact h2.elim
        | some pl =>
          simp only [e4] at h2
          exact hr G2 H2 x d xs ds pl Q rel2.sub ((fx1.mono ext2.same).look rel2 e2) (fx2.look rel2 e3) e4 fun v H' ps => Got.done rel2 h2 ps
      · exact h2.elim
    · rw [if_neg hy] at h1; exact h1.elim)
end
def fIdxT : D → List D → Option Pl
  | .tuple a, [.int k] => match intsOf a with
    | some ns => if k ∈ ns then some (.val (.int (ns.idxOf k : Nat))) else none
    | none => none
  | _, _ => none
theorem idxT_ok (K : PySem.W.Frag) : MtOk K "tuple" (rTIx K) fIdxT := by
  intro G H x d xs ds p Q sub hx hxs e q
  unfold fIdxT at e
  split at e
  · rename_i a k
    cases e1 : intsOf a with
    | none => rw [e1] at e; cases e
    | some ns =>
      rw [e1] at e
      simp only at e
      split at e
      · rename_i hk
        cases e
        obtain rfl := intsOf_eq e1
        obtain ⟨y, rfl, hy⟩ := hxs.one
        obtain ⟨ad, ys, rfl, _, h2, h3⟩ := hx.tup sub
        have h3 := h3.ints
        subst h3
        have hy := hy.int
        subst hy
        exact ⟨ad, ns, k, rfl, rfl, h2, hk, q _ _ (.fz (.int _))⟩
      · cases e
  · cases e
theorem idxT_i {ns : List Int} {k : Int} (h : k ∈ ns) : fIdxT (.tuple (ns.map .int)) [.int k] = some (.val (.int (ns.idxOf k : Nat))) := by
  show (match intsOf (ns.map PyData.int) with | some ns => if k ∈ ns then some (Pl.val (.int (ns.idxOf k : Nat))) else none | none => none) = _
  rw [intsOf_map]
  simp only [if_pos h]
end TN
namespace TNO
open PySem PySem.Spec PyProof.Rows L2 TN
theorem w_mtT {f : D → List D → Option Pl} {a : CE} {ca : CA} {ρ : Rho} {Q : Pl → Rho → Prop} {E : Xc → Rho → Prop} (h : gE (a ρ) (fun p ρ1 => lk p ρ1 fun d0 => isTupl d0 = true ∧ gE (ca ρ1) (fun ps ρ2 => lk p ρ2 fun d => lkA ps ρ2 fun ds => gO (f d ds) fun r => Q r ρ2) E) E) : gE (cMtT f a ca ρ) Q E := by
  unfold cMtT
  refine gE_bind (gE_mono h fun p ρ1 h => ?_)
  obtain ⟨x, hx, h1, h⟩ := gO_ex h
  simp only [hx, h1, if_true]
  refine gE_bind (gE_mono h fun ps ρ2 h => ?_)
  obtain ⟨y, hy, h⟩ := gO_ex h
  obtain ⟨z, hz, h⟩ := gO_ex h
  simp only [hy, hz]; exact gE_op h
end TNO
namespace TN
open PySem PySem.Spec PyProof.Rows L2
theorem w_mtT {f : D → List D → Option Pl} {a : CE} {ca : CA} {ρ : Rho} {Q : Pl → Rho → Prop} {E : Xc → Rho → Prop} (h : gE (a ρ) (fun p ρ1 => lk p ρ1 fun d0 => isTupl d0 = true ∧ gE (ca ρ1) (fun ps ρ2 => lk p ρ2 fun d => lkA ps ρ2 fun ds => gO (f d ds) fun r => Q r ρ2) E) E) : gE (cMtT f a ca ρ) Q E := by with_unfolding_all exact TNO.w_mtT h
theorem tup_i {A : Prop} {d0 : D} (h : isTupl d0 = true) (k : A) : isTupl d0 = true ∧ A := ⟨h, k⟩
end TN
namespace TN
open PySem PySem.Spec PyProof.Rows L2
/-! the package's growing, bars, mirrors, joins -/
abbrev ee_grown_web_1 : CE := (cTup (cCons (cVar 1) (cCons (cBin opAdd (cVar 4) (cVar 6)) cNil)))
abbrev cc_grown_web : CS := (cSeq (cUnp (gTp 2 (gsCons (gNm 4) (gsCons (gNm 5) gsNil))) (cVar 0))
  (cSeq (cSet 3 (cFn fMin2 (cCons (cBin opSub (cLit (.int 40)) (cVar 4)) (cCons (cBin opSub (cLit (.int 60)) (cFn fLen (cCons (cVar 5) cNil))) cNil))))
  (cSeq (cIf (cTst (cBin opGt (cVar 2) (cVar 3)))
  (cRaiseA "NoWeb" ["number"] (cCons (cVar 3) cNil))
  cSkip)
  (cRet (cTup (cCons (cBin opAdd (cVar 4) (cVar 2)) (cCons (cFn fTuple (cCons (cFn fSorted (cCons (cBin opAdd (cVar 5) (cFn fTuple (cCons (cComp (cRng1 (cVar 2)) (gNm 6) tTrue ee_grown_web_1 [6]) cNil))) cNil)) cNil)) cNil)))))))
def MM_grown_web : FM := mkF 3 7 cc_grown_web
theorem in_grown_web {x0 x1 x2 : D} {m0 m1 m2 : Md} {T : D → Bool → List Slot → Prop} {E : Xc → List Slot → Prop} (h : gS (cc_grown_web [some (x0, m0), some (x1, m1), some (x2, m2), none, none, none, none]) (fun ρ => T .none false (ρ.take 3)) (fun d fr ρ => T d fr (ρ.take 3)) (fun x ρ => E x (ρ.take 3))) : gF (MM_grown_web [(x0, m0), (x1, m1), (x2, m2)]) T E := by
  unfold MM_grown_web
  with_reducible refine gF_mkE (c := cc_grown_web) ?_ ?_ h
  · rfl
  · rfl
abbrev ee_grown_above_1 : CE := (cBin opAdd (cVar 5) (cVar 2))
abbrev ee_grown_above_2 : CE := (cBin opSub (cBin opSub (cVar 2) (cLit (.int 1))) (cVar 5))
abbrev cc_grown_above : CS := (cSeq (cSet 3 (cCall MM_grown_web (cCons (cVar 0) (cCons (cMtT fIdxT (cVar 1) (cCons (cFn fLen (cCons (cBin opIx (cVar 0) (cLit (.int 1))) cNil)) cNil)) (cCons (cVar 2) cNil)))))
  (cSeq (cSet 4 (cFn fTuple (cCons (cComp (cIt (cVar 1)) (gNm 5) tTrue ee_grown_above_1 [5]) cNil)))
  (cRet (cTup (cCons (cVar 3) (cCons (cBin opAdd (cVar 4) (cFn fTuple (cCons (cComp (cRng1 (cVar 2)) (gNm 5) tTrue ee_grown_above_2 [5]) cNil))) cNil))))))
def MM_grown_above : FM := mkF 3 6 cc_grown_above
theorem in_grown_above {x0 x1 x2 : D} {m0 m1 m2 : Md} {T : D → Bool → List Slot → Prop} {E : Xc → List Slot → Prop} (h : gS (cc_grown_above [some (x0, m0), some (x1, m1), some (x2, m2), none, none, none]) (fun ρ => T .none false (ρ.take 3)) (fun d fr ρ => T d fr (ρ.take 3)) (fun x ρ => E x (ρ.take 3))) : gF (MM_grown_above [(x0, m0), (x1, m1), (x2, m2)]) T E := by
  unfold MM_grown_above
  with_reducible refine gF_mkE (c := cc_grown_above) ?_ ?_ h
  · rfl
  · rfl

/-! ### webs grown -/
def newT (n p c : Nat) : List (Nat × Nat) := (List.range c).map fun i => (p, n + i)
def grwT (ts : List (Nat × Nat)) (n p c : Nat) : List (Nat × Nat) := ts ++ newT n p c
theorem grwT_len (ts : List (Nat × Nat)) (n p c : Nat) : (grwT ts n p c).length = ts.length + c := by simp [grwT, newT]
theorem newT_succ (n p c : Nat) : newT n p (c + 1) = newT n p c ++ [(p, n + c)] := by simp [newT, List.range_succ]
theorem grwT_succ (ts : List (Nat × Nat)) (n p c : Nat) : grwT ts n p (c + 1) = grwT ts n p c ++ [(p, n + c)] := by unfold grwT; rw [newT_succ, List.append_assoc]
theorem grw_ok {n : Nat} {ts : List (Nat × Nat)} (h : WebOk n ts) {p c : Nat} (hp : p < n) (h1 : n + c ≤ 1000) (h2 : ts.length + c ≤ 1000) : WebOk (n + c) (sortT (grwT ts n p c)) :=
  wok_sort (by have := h.n1; omega) h1 (by rw [grwT_len]; exact h2) fun t ht => by
    rcases List.mem_append.mp ht with z | z
    · have := h.lt t z; omega
    · obtain ⟨i, hi, rfl⟩ := List.mem_map.mp z
      have := List.mem_range.mp hi
      exact ⟨by simp only; omega, by simp only; omega⟩
def stpN (m c : Nat) : List Int := (List.range c).map fun i => (m : Int) + 1 + (i : Nat)
theorem stpN_succ (m c : Nat) : stpN m (c + 1) = stpN m c ++ [(m : Int) + 1 + (c : Nat)] := by simp [stpN, List.range_succ]
theorem gr_more {m : Nat} {T : List (Nat × Nat)} {N : List Int} {p : Nat} (g : Gr m T N) (hp : p < m) (h0 : N.getD p 0 = 0) : ∀ c, Gr (m + c) (grwT T m p c) (N ++ stpN T.length c)
  | 0 => by simpa [grwT, newT, stpN] using g
  | c + 1 => by
    have ih := gr_more g hp h0 c
    have hl := g.len
    have h1 : (N ++ stpN T.length c).getD p 0 = 0 := by
      rw [List.getD_eq_getElem?_getD, List.getElem?_append_left (by omega), ← List.getD_eq_getElem?_getD]; exact h0
    have := gr_grow ih (show p < m + c by omega) h1
    rw [grwT_len] at this
    rw [grwT_succ, stpN_succ, ← List.append_assoc]
    have e : ((T.length + c : Nat) : Int) + 1 = (T.length : Int) + 1 + (c : Nat) := by omega
    rw [e] at this
    exact this
def dwnN (c : Nat) : List Int := (List.range c).map fun i => (c : Int) - 1 - (i : Nat)
theorem gr_above {m : Nat} {T : List (Nat × Nat)} {N : List Int} {p : Nat} (g : Gr m T N) (hp : p < m) (h0 : N.getD p 0 = (T.length : Int)) (c : Nat) : Gr (m + c) (grwT T m p c) (N.map (· + (c : Int)) ++ dwnN c) := by
  have hl := g.len
  have g1 := gr_comp g
  have h1 : (N.map fun x => (T.length : Int) - x).getD p 0 = 0 := by
    rw [getD_map (by omega), h0]; omega
  have g2 := gr_comp (gr_more g1 hp h1 c)
  rw [grwT_len, List.map_append, List.map_map] at g2
  have e1 : (N.map ((fun x => ((T.length + c : Nat) : Int) - x) ∘ fun x => (T.length : Int) - x)) = N.map (· + (c : Int)) := List.map_congr_left fun x _ => by simp only [Function.comp]; omega
  have e2 : (stpN T.length c).map (fun x => ((T.length + c : Nat) : Int) - x) = dwnN c := by
    unfold stpN dwnN
    rw [List.map_map]
    exact List.map_congr_left fun x _ => by simp only [Function.comp]; omega
  rw [e1, e2] at g2
  exact g2
theorem gr_zero {m : Nat} {T : List (Nat × Nat)} {N : List Int} (g : Gr m T N) : (0 : Int) ∈ N ∧ (T.length : Int) ∈ N := by
  have hl := g.len
  have hp := g.pos
  have mem : ∀ i, i < m → N.getD i 0 ∈ N := fun i hi => by
    rw [List.getD_eq_getElem?_getD, List.getElem?_eq_getElem (by omega)]; exact List.getElem_mem _
  by_cases hT : T = []
  · subst hT
    have h1 := mem 0 (by omega)
    have h2 := g.rng _ h1
    have h3 : N.getD 0 0 = 0 := by simp only [List.length_nil] at h2; omega
    rw [h3] at h1
    exact ⟨h1, h1⟩
  · have hpos : 0 < T.length := List.length_pos_iff.mpr hT
    obtain ⟨e, he, hs⟩ := gr_step g (s := (T.length : Int)) (by omega) (by omega)
    have h1 := g.lt e he
    have h2 := gr_ends g he
    have a := mem e.1 h1.1
    have b := mem e.2 h1.2
    unfold absI at hs
    split at hs
    · have x : N.getD e.1 0 = 0 := by omega
      have y : N.getD e.2 0 = (T.length : Int) := by omega
      rw [x] at a; rw [y] at b
      exact ⟨a, b⟩
    · have x : N.getD e.2 0 = 0 := by omega
      have y : N.getD e.1 0 = (T.length : Int) := by omega
      rw [x] at b; rw [y] at a
      exact ⟨b, a⟩
theorem idx_lt' {N : List Int} {x : Int} (h : x ∈ N) : N.idxOf x < N.length := List.idxOf_lt_length_iff.mpr h
theorem idx_get' {N : List Int} {x : Int} (h : x ∈ N) : N.getD (N.idxOf x) 0 = x := by
  rw [List.getD_eq_getElem?_getD, List.getElem?_eq_getElem (idx_lt' h)]
  exact List.getElem_idxOf _
theorem min2_i (a b : Int) : fMin2 [.int a, .int b] = some (.val (.int (min a b))) := by
  rw [fMin2_i]
  split <;> (congr 3; omega)
theorem grownweb_run {n : Nat} {ts : List (Nat × Nat)} (h : WebOk n ts) {p c : Nat} (h1 : n + c ≤ 40) (h2 : ts.length + c ≤ 60) :
    (MM_grown_web [(webD n ts, .fz), (.int (p : Nat), .fz), (.int (c : Nat), .fz)]).rv = some (webD (n + c) (sortT (grwT ts n p c)), false) := by
  have hm := min2_i (40 - (n : Int)) (60 - (ts.length : Int))
  have hg : ¬ (c : Int) > min (40 - (n : Int)) (60 - (ts.length : Int)) := by omega
  have hln : fLen [.tuple (ts.map tieD)] = some (.val (.int (ts.length : Nat))) := by rw [fLen_t, List.length_map]
  have hso : fSorted [.tuple (ts.map tieD ++ (newT n p c).map tieD)] = some (.tmp (.list ((sortT (grwT ts n p c)).map tieD))) := by
    rw [← List.map_append]
    exact sortT_run (grwT ts n p c) (by rw [grwT_len]; omega)
  have hadd : opAdd (.tuple (ts.map tieD)) (.tuple ((newT n p c).map tieD)) = some (.val (.tuple (ts.map tieD ++ (newT n p c).map tieD))) := opAdd_tt (by simp [newT]; omega)
  have enew : (List.range c).map (fun i => PyData.tuple [.int (p : Nat), .int (((n + i : Nat)) : Int)]) = (newT n p c).map tieD := by unfold newT; rw [List.map_map]; rfl
  unfold webD
  generalize min (40 - (n : Int)) (60 - (ts.length : Int)) = mi at *
  generalize hTD : ts.map tieD = TD at *
  with_reducible refine rv_gF (in_grown_web ?_)
  repeat' (first | (apply gO_of hln) | (apply gO_of hm) | (apply br_n hg) | array_mem_dec)
  refine TN.cp_rng (c) (fun i => PyData.tuple [.int (p : Nat), .int (((n + i : Nat)) : Int)]) (by (first | omega | exact rfl)) (by (first | omega | (simp; done) | (simp; omega))) (by (first | exact rfl | (repeat (first | exact TN.wOk_nil | ((apply TN.wOk_cons); exact rfl; (first | exact TN.okW_none | exact TN.okW_fz | exact TN.okW_jk | assumption)))))) (by (repeat (first | exact wipe_nil | apply wipe_cons | exact st0 | apply stS))) ?_ ?_
  · intro i hi
    repeat' array_mem_dec
    exact ⟨by rw [Int.natCast_add], rfl⟩
  · repeat' (first | (rw [enew]) | (apply gO_of hadd) | (apply gO_of hso) | array_mem_dec)
    exact ⟨by rw [Int.natCast_add], rfl⟩
theorem grownab_run {n : Nat} {ts : List (Nat × Nat)} {N : List Int} (h : WebOk n ts) (g : Gr n ts N) {c : Nat} (h1 : n + c ≤ 40) (h2 : ts.length + c ≤ 60) :
    (MM_grown_above [(webD n ts, .fz), (.tuple (N.map .int), .fz), (.int (c : Nat), .fz)]).rv = some (.tuple [webD (n + c) (sortT (grwT ts n (N.idxOf (ts.length : Int)) c)), .tuple ((N.map (· + (c : Int)) ++ dwnN c).map .int)], false) := by
  have hx := idxT_i (gr_zero g).2
  have hw := grownweb_run h (p := N.idxOf (ts.length : Int)) h1 h2
  have hl := g.len
  have hln : fLen [.tuple (ts.map tieD)] = some (.val (.int (ts.length : Nat))) := by rw [fLen_t, List.length_map]
  have hwt := web_ties n ts
  have hadd : opAdd (.tuple ((N.map (· + (c : Int))).map .int)) (.tuple ((dwnN c).map .int)) = some (.val (.tuple ((N.map (· + (c : Int)) ++ dwnN c).map .int))) := by
    rw [opAdd_tt (by simp [dwnN]; omega), List.map_append]
  have enew : (List.range c).map (fun i => PyData.int ((c : Int) - 1 - (i : Nat))) = (dwnN c).map .int := by unfold dwnN; rw [List.map_map]; rfl
  have eup : N.map (fun x => PyData.int (x + (c : Int))) = (N.map (· + (c : Int))).map .int := by rw [List.map_map]; rfl
  have ht : isTupl (.tuple (N.map PyData.int)) = true := rfl
  have hsq : seqD (.tuple (N.map PyData.int)) = some (N.map .int) := rfl
  generalize (N.map (· + (c : Int)) ++ dwnN c).map PyData.int = RD at *
  generalize PyData.tuple (N.map PyData.int) = ND at *
  generalize webD n ts = WD at *
  generalize webD (n + c) _ = VD at *
  generalize ts.map tieD = TD at *
  with_reducible refine rv_gF (in_grown_above ?_)
  repeat' (first | (apply gO_of hwt) | (apply gO_of hln) | (with_reducible apply w_mtT) | (refine tup_i ht ?_) | (apply gO_of hx) | (apply gO_of hsq) | array_mem_dec | ((with_reducible refine TN.c_rv ?_ ?_ hw ?_); exact rfl; exact rfl))
  refine TN.cp_map (N) (.int) (fun x => .int (x + (c : Int))) rfl (by (first | omega | (simp; done) | (simp; omega))) (by (first | exact rfl | (repeat (first | exact TN.wOk_nil | ((apply TN.wOk_cons); exact rfl; (first | exact TN.okW_none | exact TN.okW_fz | exact TN.okW_jk | assumption)))))) (by (repeat (first | exact wipe_nil | apply wipe_cons | exact st0 | apply stS))) ?_ ?_
  · intro x hx
    repeat' array_mem_dec
    exact ⟨rfl, rfl⟩
  · repeat' (first | (rw [eup]) | array_mem_dec)
    refine TN.cp_rng (c) (fun i => PyData.int ((c : Int) - 1 - (i : Nat))) (by (first | omega | exact rfl)) (by (first | omega | (simp; done) | (simp; omega))) (by (first | exact rfl | (repeat (first | exact TN.wOk_nil | ((apply TN.wOk_cons); exact rfl; (first | exact TN.okW_none | exact TN.okW_fz | exact TN.okW_jk | assumption)))))) (by (repeat (first | exact wipe_nil | apply wipe_cons | exact st0 | apply stS))) ?_ ?_
    · intro i hi
      repeat' array_mem_dec
      exact ⟨rfl, rfl⟩
    · repeat' (first | (rw [enew]) | (apply gO_of hadd) | array_mem_dec)
      exact ⟨rfl, rfl⟩

end TN
namespace TN
open PySem PySem.Spec PyProof.Rows L2
/-! ### the bars of steps -/
end TN
namespace TN
open PySem PySem.Spec PyProof.Rows L2
/-! ### f(a, b, g(..)): the last of three arguments a new list, lent -/
section
variable {X : Cx} {k : Nat} {f : Addr} {fd : FuncData} {pn : List Str} {M : FM} {x : Str} {p pos : Pos} {a b e : Expr} {c1 c2 c3 : CE}
end
end TN
namespace TNO
open PySem PySem.Spec PyProof.Rows L2 TN
end TNO
namespace TN
open PySem PySem.Spec PyProof.Rows L2
end TN
namespace TN
open PySem PySem.Spec PyProof.Rows L2
/-! ### webs joined at a place -/
section
variable {n m : Nat} {ts us : List (Nat × Nat)} {N M : List Int} {t u : Int}
end
end TN
namespace TNO
open PySem PySem.Spec PyProof.Rows L2 TN
end TNO
namespace TN
open PySem PySem.Spec PyProof.Rows L2
/-! ### joined_webs run -/
section
variable {n m : Nat} {ts us : List (Nat × Nat)} {N M : List Int} {t : Int}
end
/-- what goes on when both are right -/
structure JoinS (n : Nat) (ts : List (Nat × Nat)) (N : List Int) (m : Nat) (us : List (Nat × Nat)) (M : List Int) (t : Int) : Prop where
  w1 : WebOk n ts
  w2 : WebOk m us
  g1 : Gr n ts N
  g2 : Gr m us M
  h0 : ts ≠ []
  ht : Par N ts t
  nl : n ≤ 300
  ml : m ≤ 300
  tl : ts.length ≤ 300
  ul : us.length ≤ 300
end TN
namespace TN
open PySem PySem.Spec PyProof.Rows L2
/-! ### what is good is such; joined webs, whole -/
section
variable {n m : Nat} {ts us : List (Nat × Nat)} {N M : List Int} {t u : Int}
end
end TN
namespace TN
open PySem PySem.Spec PyProof.Rows L2
/-! ### the laws' parted webs -/
end TN
namespace TN
open PySem PySem.Spec PyProof.Rows L2

/-! ### repr: defs that are called where nothing is being shown -/
structure RoomG (k : Nat) (A : Around) : Prop where
  rm : Room k A
  gd : A.guards = some []
theorem RoomG.mono {j k : Nat} {A : Around} (r : RoomG k A) (h : j ≤ k) : RoomG j A := ⟨r.rm.mono h, r.gd⟩
section
variable {X : Cx} {k : Nat}
end
/-! ### {} == a tuple -/
open Sem in
open Sem in
section
variable {X : Cx} {k : Nat}
end
/-! ### such defs -/
structure FnG (P : Program) (w : World) (K : PySem.W.Frag) (mg : Str → Option Value) (base : Heap) (CX : CXT) (k : Nat) (f : Addr) (fd : FuncData) (ps : List Str) (sp : L2.Sp) : Prop where
  len : ∀ vs H Q E, sp vs H Q E → vs.length = ps.length
  run : ∀ (A : Around) (outer : List Env) (s : Shared) (H : Hp) (args : Args) (us : List Value) (vs : List V) (Q : VK) (E : XK), RoomG k A → Env0 P w K mg base A outer s H → BindsTo s fd args (ps.zip us) → Vals vs us → sp vs H Q E →
    codeAny (model P w) A (.call (.ref f) args) (CR CX outer P w H s Q E) s
theorem FnG.of {P : Program} {w : World} {K : PySem.W.Frag} {mg : Str → Option Value} {base : Heap} {CX : CXT} {k : Nat} {f : Addr} {fd : FuncData} {ps : List Str} {sp : L2.Sp} (F : FnOk P w K mg base CX k f fd ps sp) : FnG P w K mg base CX k f fd ps sp :=
  ⟨F.len, fun A outer s H args us vs Q E hr => F.run A outer s H args us vs Q E hr.rm⟩
theorem FnG.mono {P : Program} {w : World} {K : PySem.W.Frag} {mg : Str → Option Value} {base : Heap} {CX : CXT} {j k : Nat} {f : Addr} {fd : FuncData} {ps : List Str} {sp : L2.Sp} (F : FnG P w K mg base CX j f fd ps sp) (h : j ≤ k) : FnG P w K mg base CX k f fd ps sp :=
  ⟨F.len, fun A outer s H args us vs Q E hr => F.run A outer s H args us vs Q E (hr.mono h)⟩
section
variable {X : Cx} {k n : Nat} {f : Addr} {fd : FuncData} {pn : List Str} {M : FM} {x : Str} {p pos : Pos} {e : Expr} {es : List Expr} {cr : CA}
end
structure CalleeG (P : Program) (w : World) (K : PySem.W.Frag) (mg : Str → Option Value) (base : Heap) (k : Nat) (x : Str) (n : Nat) (M : FM) : Prop where
  ex : ∃ (f : Addr) (fd : FuncData) (pn : List Str), FnG P w K mg base (L2.CX P w) k f fd pn (spF K mg n M) ∧ mg x = some (.ref f) ∧ PySem.W.keepIn K (.ref f) = true ∧ Binds K fd pn []
theorem CalleeG.up {P : Program} {w : World} {K : PySem.W.Frag} {mg : Str → Option Value} {base : Heap} {k : Nat} {x : Str} {n : Nat} {M : FM} (c : CalleeG P w K mg base k x n M) {j : Nat} (h : k ≤ j) : CalleeG P w K mg base j x n M := by
  obtain ⟨f, fd, pn, h1, h2, h3, h4⟩ := c.ex
  exact ⟨f, fd, pn, h1.mono h, h2, h3, h4⟩
/-! ### the top: nothing is being shown there -/
/-! ### sum(range(..)) -/
section
variable {prog : Program} {w : World} {A : Around} {E : Value → Shared → Prop} {s : Shared} {r : Addr} {a b : Int} {t u v : Tok} {Q : Value → Shared → Prop}
end
section
variable {X : Cx} {e : Expr} {cr : Rho → R (Int × Int)} {p pos : Pos} {te : L2.St → Hp → (Int → Int → Hp → Prop) → Prop}
end
end TN
namespace K74
open PySem PySem.Spec PyProof.Rows L2 TN
abbrev M__law_cell_at : FM := MMCell
abbrev M__law_pen_of : FM := MMPen
abbrev M__law_next : FM := MMNext
abbrev M__law_draw : FM := MMDraw
abbrev e__law_kind_of_few_1 : CE := (cBin opIx (cLst (cCons (cLit (.int 0)) (cCons (cLit (.int 0)) (cCons (cLit (.int 1)) (cCons (cLit (.int 2)) cNil))))) (cCall M__law_draw (cCons (cVar 0) (cCons (cLit (.int 4)) cNil))))
abbrev c__law_kind_of_few : CS := (cSeq (cSet 1 (cCall M__law_draw (cCons (cVar 0) (cCons (cLit (.int 3)) cNil))))
  (cSeq (cIf (cTst (cBin opEq (cVar 1) (cLit (.int 0))))
  (cSeq (cSet 3 (cBin opAdd (cLit (.int 1)) (cCall M__law_draw (cCons (cVar 0) (cCons (cLit (.int 3)) cNil)))))
  (cRet (cTup (cCons (cLit (.str "sides")) (cCons (cVar 3) (cCons (cBin opAdd (cLit (.int 1)) (cCall M__law_draw (cCons (cVar 0) (cCons (cBin opDiv (cLit (.int 12)) (cVar 3)) cNil)))) cNil))))))
  cSkip)
  (cSeq (cIf (cTst (cBin opEq (cVar 1) (cLit (.int 1))))
  (cRet (cTup (cCons (cLit (.str "ring")) (cCons (cBin opIx (cLst (cCons (cLit (.int 3)) (cCons (cLit (.int 4)) (cCons (cLit (.int 7)) (cCons (cLit (.int 8)) (cCons (cLit (.int 11)) (cCons (cLit (.int 12)) cNil))))))) (cCall M__law_draw (cCons (cVar 0) (cCons (cLit (.int 6)) cNil)))) cNil))))
  cSkip)
  (cSeq (cSet 2 (cComp (cRng1 (cBin opAdd (cLit (.int 2)) (cCall M__law_draw (cCons (cVar 0) (cCons (cLit (.int 3)) cNil))))) (gNm 4) tTrue e__law_kind_of_few_1 [4]))
  (cRet (cTup (cCons (cLit (.str "spine")) (cCons (cFn fTuple (cCons (cVar 2) cNil)) cNil))))))))
def M__law_kind_of_few : FM := mkF 1 5 c__law_kind_of_few
theorem in__law_kind_of_few {x0 : D} {m0 : Md} {T : D → Bool → List Slot → Prop} {E : Xc → List Slot → Prop} (h : gS (c__law_kind_of_few [some (x0, m0), none, none, none, none]) (fun ρ => T .none false (ρ.take 1)) (fun d fr ρ => T d fr (ρ.take 1)) (fun x ρ => E x (ρ.take 1))) : gF (M__law_kind_of_few [(x0, m0)]) T E := by
  unfold M__law_kind_of_few
  with_reducible refine gF_mkE (c := c__law_kind_of_few) ?_ ?_ h
  · rfl
  · rfl
abbrev M_is_whole : FM := MMWhole
abbrev M_legs_good : FM := MM_legs_good
abbrev M_kind_form : FM := MM_kind_form
abbrev M_spine_ties : FM := MM_spine_ties
abbrev M_row_ties : FM := MM_row_ties
abbrev M_kind_ties : FM := MM_kind_ties
abbrev M_kind_good : FM := MM_kind_good
abbrev M_web_for : FM := MM_web_for
abbrev M_check_made : FM := MM_check_made
abbrev M_spine_steps : FM := MM_spine_steps
abbrev M_sides_steps : FM := MM_sides_steps
abbrev M_ring_steps : FM := MM_ring_steps
abbrev M_steps_for : FM := MM_steps_for
abbrev M_check_folded : FM := MM_check_folded
abbrev M_round_copies : FM := MM_round_copies
abbrev M_cut_by : FM := MM_cut_by
abbrev e_copy_good_1 : CE := (cAndV (cCall M_is_whole (cCons (cVar 3) cNil)) (cChain opLe opLt (cLit (.int 0)) (cVar 3) (cVar 1)))
abbrev c_copy_good : CS := (cSeq (cIf (cOr (cNot (cTst (cUn (opIsi "tuple") (cVar 2)))) (cTst (cBin opNe (cFn fLen (cCons (cVar 2) cNil)) (cBin opIx (cVar 0) (cLit (.int 0))))))
  (cRet (cLit (.bool false)))
  cSkip)
  (cSeq (cIf (cNot (cTst (cFn fAll (cCons (cComp (cIt (cVar 2)) (gNm 3) tTrue e_copy_good_1 [3]) cNil))))
  (cRet (cLit (.bool false)))
  cSkip)
  (cRet (cBin opEq (cUn fLenSet (cVar 2)) (cFn fLen (cCons (cVar 2) cNil))))))
def M_copy_good : FM := mkF 3 4 c_copy_good
theorem in_copy_good {x0 x1 x2 : D} {m0 m1 m2 : Md} {T : D → Bool → List Slot → Prop} {E : Xc → List Slot → Prop} (h : gS (c_copy_good [some (x0, m0), some (x1, m1), some (x2, m2), none]) (fun ρ => T .none false (ρ.take 3)) (fun d fr ρ => T d fr (ρ.take 3)) (fun x ρ => E x (ρ.take 3))) : gF (M_copy_good [(x0, m0), (x1, m1), (x2, m2)]) T E := by
  unfold M_copy_good
  with_reducible refine gF_mkE (c := c_copy_good) ?_ ?_ h
  · rfl
  · rfl
abbrev e_copy_ties_1 : CE := (cTup (cCons (cFn fMin2 (cCons (cBin opIx (cVar 1) (cVar 2)) (cCons (cBin opIx (cVar 1) (cVar 3)) cNil))) (cCons (cFn fMax2 (cCons (cBin opIx (cVar 1) (cVar 2)) (cCons (cBin opIx (cVar 1) (cVar 3)) cNil))) cNil)))
abbrev c_copy_ties : CS := (cRet (cComp (cIt (cBin opIx (cVar 0) (cLit (.int 1)))) (gTp 2 (gsCons (gNm 2) (gsCons (gNm 3) gsNil))) tTrue e_copy_ties_1 [2, 3]))
def M_copy_ties : FM := mkF 2 4 c_copy_ties
theorem in_copy_ties {x0 x1 : D} {m0 m1 : Md} {T : D → Bool → List Slot → Prop} {E : Xc → List Slot → Prop} (h : gS (c_copy_ties [some (x0, m0), some (x1, m1), none, none]) (fun ρ => T .none false (ρ.take 2)) (fun d fr ρ => T d fr (ρ.take 2)) (fun x ρ => E x (ρ.take 2))) : gF (M_copy_ties [(x0, m0), (x1, m1)]) T E := by
  unfold M_copy_ties
  with_reducible refine gF_mkE (c := c_copy_ties) ?_ ?_ h
  · rfl
  · rfl
abbrev e_cut_good_1 : CE := (cCall M_copy_good (cCons (cVar 0) (cCons (cVar 1) (cCons (cVar 4) cNil))))
abbrev b_cut_good_2 : CS := (cSeq (cIf (cTst (cBin opIn (cVar 5) (cVar 3)))
  (cRet (cLit (.bool false)))
  cSkip)
  (cUnp (gPut 3 putA (cVar 5)) (cLit (.bool true))))
abbrev b_cut_good_3 : CS := (cFor (cIt (cCall M_copy_ties (cCons (cVar 0) (cCons (cVar 4) cNil)))) (gNm 5)
  b_cut_good_2)
abbrev c_cut_good : CS := (cSeq (cIf (cOr (cNot (cTst (cUn (opIsi "list") (cVar 2)))) (cNot (cTst (cFn fAll (cCons (cComp (cIt (cVar 2)) (gNm 4) tTrue e_cut_good_1 [4]) cNil)))))
  (cRet (cLit (.bool false)))
  cSkip)
  (cSeq (cSet 3 cNewT)
  (cSeq (cFor (cIt (cVar 2)) (gNm 4)
  b_cut_good_3)
  (cRet (cBin opEq (cBin opMul (cLit (.int 2)) (cFn fLen (cCons (cVar 3) cNil))) (cBin opMul (cVar 1) (cBin opSub (cVar 1) (cLit (.int 1)))))))))
def M_cut_good : FM := mkF 3 6 c_cut_good
theorem in_cut_good {x0 x1 x2 : D} {m0 m1 m2 : Md} {T : D → Bool → List Slot → Prop} {E : Xc → List Slot → Prop} (h : gS (c_cut_good [some (x0, m0), some (x1, m1), some (x2, m2), none, none, none]) (fun ρ => T .none false (ρ.take 3)) (fun d fr ρ => T d fr (ρ.take 3)) (fun x ρ => E x (ρ.take 3))) : gF (M_cut_good [(x0, m0), (x1, m1), (x2, m2)]) T E := by
  unfold M_cut_good
  with_reducible refine gF_mkE (c := c_cut_good) ?_ ?_ h
  · rfl
  · rfl
abbrev b_found_in_1 : CS := (cIf (cOr (cNot (cTst (cCall M_is_whole (cCons (cVar 6) cNil)))) (cOr (cTst (cBin opLt (cVar 6) (cLit (.int 0)))) (cTst (cBin opGe (cVar 6) (cVar 5)))))
  (cRaise "NoPlace")
  cSkip)
abbrev b_found_in_2 : CS := (cSeq (cSet 9 (cFn fMin2 (cCons (cBin opIx (cVar 1) (cBin opIx (cVar 8) (cLit (.int 0)))) (cCons (cBin opIx (cVar 1) (cBin opIx (cVar 8) (cLit (.int 1)))) cNil))))
  (cSeq (cSet 10 (cFn fAbs (cCons (cBin opSub (cBin opIx (cVar 1) (cBin opIx (cVar 8) (cLit (.int 0)))) (cBin opIx (cVar 1) (cBin opIx (cVar 8) (cLit (.int 1))))) cNil)))
  (cSeq (cIf (cTst (cBin opEq (cBin opMod (cBin opSub (cVar 3) (cVar 2)) (cVar 5)) (cVar 10)))
  (cRet (cTup (cCons (cBin opMod (cBin opSub (cVar 2) (cVar 9)) (cVar 5)) (cCons (cVar 7) cNil))))
  cSkip)
  (cIf (cTst (cBin opEq (cBin opMod (cBin opSub (cVar 2) (cVar 3)) (cVar 5)) (cVar 10)))
  (cRet (cTup (cCons (cBin opMod (cBin opSub (cVar 3) (cVar 9)) (cVar 5)) (cCons (cVar 7) cNil))))
  cSkip))))
abbrev c_found_in : CS := (cSeq (cSet 4 (cFn fLen (cCons (cBin opIx (cVar 0) (cLit (.int 1))) cNil)))
  (cSeq (cDrop (cCall M_check_folded (cCons (cVar 4) cNil)))
  (cSeq (cSet 5 (cBin opAdd (cBin opMul (cLit (.int 2)) (cVar 4)) (cLit (.int 1))))
  (cSeq (cFor (cIt (cTup (cCons (cVar 2) (cCons (cVar 3) cNil)))) (gNm 6)
  b_found_in_1)
  (cSeq (cIf (cTst (cBin opEq (cVar 2) (cVar 3)))
  (cRaise "NoPlace")
  cSkip)
  (cSeq (cFor (cEnum (cBin opIx (cVar 0) (cLit (.int 1)))) (gTp 2 (gsCons (gNm 7) (gsCons (gNm 8) gsNil)))
  b_found_in_2)
  (cRaise "NoPlace")))))))
def M_found_in : FM := mkF 4 11 c_found_in
theorem in_found_in {x0 x1 x2 x3 : D} {m0 m1 m2 m3 : Md} {T : D → Bool → List Slot → Prop} {E : Xc → List Slot → Prop} (h : gS (c_found_in [some (x0, m0), some (x1, m1), some (x2, m2), some (x3, m3), none, none, none, none, none, none, none]) (fun ρ => T .none false (ρ.take 4)) (fun d fr ρ => T d fr (ρ.take 4)) (fun x ρ => E x (ρ.take 4))) : gF (M_found_in [(x0, m0), (x1, m1), (x2, m2), (x3, m3)]) T E := by
  unfold M_found_in
  with_reducible refine gF_mkE (c := c_found_in) ?_ ?_ h
  · rfl
  · rfl
abbrev e__law_each_pair_1 : CE := (cBin opIx (cVar 7) (cVar 11))
abbrev b__law_each_pair_2 : CS := (cSeq (cUnp (gTp 2 (gsCons (gNm 9) (gsCons (gNm 10) gsNil))) (cCall M_found_in (cCons (cVar 0) (cCons (cVar 1) (cCons (cVar 5) (cCons (cVar 6) cNil))))))
  (cSeq (cSet 7 (cBin opIx (cVar 2) (cVar 9)))
  (cSeq (cSet 8 (cComp (cIt (cBin opIx (cBin opIx (cVar 0) (cLit (.int 1))) (cVar 10))) (gNm 11) tTrue e__law_each_pair_1 [11]))
  (cSeq (cIf (cTst (cBin opNe (cFn fSorted (cCons (cVar 8) cNil)) (cLst (cCons (cVar 6) (cCons (cVar 5) cNil)))))
  (cRet (cLit (.bool false)))
  cSkip)
  (cSeq (cUnp (gPut 4 putA (cVar 5)) (cBin opAdd (cBin opIx (cVar 4) (cVar 5)) (cLit (.int 1))))
  (cUnp (gPut 4 putA (cVar 6)) (cBin opAdd (cBin opIx (cVar 4) (cVar 6)) (cLit (.int 1)))))))))
abbrev b__law_each_pair_3 : CS := (cFor (cRng1 (cVar 5)) (gNm 6)
  b__law_each_pair_2)
abbrev c__law_each_pair : CS := (cSeq (cSet 3 (cBin opAdd (cBin opMul (cLit (.int 2)) (cFn fLen (cCons (cBin opIx (cVar 0) (cLit (.int 1))) cNil))) (cLit (.int 1))))
  (cSeq (cSet 4 (cBin opMul (cLst (cCons (cLit (.int 0)) cNil)) (cVar 3)))
  (cSeq (cFor (cRng1 (cVar 3)) (gNm 5)
  b__law_each_pair_3)
  (cRet (cBin opEq (cVar 4) (cBin opMul (cLst (cCons (cBin opSub (cVar 3) (cLit (.int 1))) cNil)) (cVar 3)))))))
def M__law_each_pair : FM := mkF 3 12 c__law_each_pair
theorem in__law_each_pair {x0 x1 x2 : D} {m0 m1 m2 : Md} {T : D → Bool → List Slot → Prop} {E : Xc → List Slot → Prop} (h : gS (c__law_each_pair [some (x0, m0), some (x1, m1), some (x2, m2), none, none, none, none, none, none, none, none, none]) (fun ρ => T .none false (ρ.take 3)) (fun d fr ρ => T d fr (ρ.take 3)) (fun x ρ => E x (ρ.take 3))) : gF (M__law_each_pair [(x0, m0), (x1, m1), (x2, m2)]) T E := by
  unfold M__law_each_pair
  with_reducible refine gF_mkE (c := c__law_each_pair) ?_ ?_ h
  · rfl
  · rfl
abbrev M_grown_web : FM := MM_grown_web
abbrev M_grown_above : FM := MM_grown_above
abbrev M_parted_for : FM := MM_parted_for
abbrev M_parting_of : FM := MM_parting_of
abbrev e_folds_by_1 : CE := (cBin opAdd (cVar 8) (cBin opMul (cBin opMul (cVar 6) (cVar 3)) (cFn fInt (cCons (cBin opGt (cVar 8) (cVar 4)) cNil))))
abbrev b_folds_by_2 : CS := (cSeq (cSet 7 (cComp (cIt (cVar 1)) (gNm 8) tTrue e_folds_by_1 [8]))
  (cDrop (cMutL 5 fExtend (cCons (cCall M_round_copies (cCons (cVar 7) (cCons (cBin opAdd (cBin opMul (cBin opMul (cLit (.int 2)) (cVar 3)) (cVar 2)) (cLit (.int 1))) cNil))) cNil))))
abbrev c_folds_by : CS := (cSeq (cSet 3 (cFn fLen (cCons (cBin opIx (cVar 0) (cLit (.int 1))) cNil)))
  (cSeq (cDrop (cCall M_check_folded (cCons (cBin opMul (cVar 3) (cVar 2)) cNil)))
  (cSeq (cSet 4 (cCall M_parting_of (cCons (cVar 0) (cCons (cVar 1) cNil))))
  (cSeq (cSet 5 (cLst cNil))
  (cSeq (cFor (cRng1 (cVar 2)) (gNm 6)
  b_folds_by_2)
  (cRet (cVar 5)))))))
def M_folds_by : FM := mkF 3 9 c_folds_by
theorem in_folds_by {x0 x1 x2 : D} {m0 m1 m2 : Md} {T : D → Bool → List Slot → Prop} {E : Xc → List Slot → Prop} (h : gS (c_folds_by [some (x0, m0), some (x1, m1), some (x2, m2), none, none, none, none, none, none]) (fun ρ => T .none false (ρ.take 3)) (fun d fr ρ => T d fr (ρ.take 3)) (fun x ρ => E x (ρ.take 3))) : gF (M_folds_by [(x0, m0), (x1, m1), (x2, m2)]) T E := by
  unfold M_folds_by
  with_reducible refine gF_mkE (c := c_folds_by) ?_ ?_ h
  · rfl
  · rfl
abbrev b_law_1 : CS := (cSeq (cSet 2 (cCall M__law_pen_of (cCons (cVar 1) cNil)))
  (cSeq (cSet 3 (cCall M__law_kind_of_few (cCons (cVar 2) cNil)))
  (cSeq (cSet 4 (cCall M_web_for (cCons (cVar 3) cNil)))
  (cSeq (cSet 5 (cBin opIx (cCall M_steps_for (cCons (cVar 3) cNil)) (cLit (.int 1))))
  (cSeq (cSet 6 (cBin opAdd (cBin opMul (cLit (.int 2)) (cFn fLen (cCons (cBin opIx (cVar 4) (cLit (.int 1))) cNil))) (cLit (.int 1))))
  (cSeq (cSet 7 (cCall M_cut_by (cCons (cVar 4) (cCons (cVar 5) cNil))))
  (cSeq (cIf (cOr (cTst (cBin opIsNotTr (cCall M_cut_good (cCons (cVar 4) (cCons (cVar 6) (cCons (cVar 7) cNil)))) (cLit (.bool true)))) (cTst (cBin opIsNotTr (cCall M_cut_good (cCons (cVar 4) (cCons (cVar 6) (cCons (cSl (cVar 7) (cPart (cLit (.int 1))) cNoPart) cNil)))) (cLit (.bool false)))))
  (cRet (cLit (.bool false)))
  cSkip)
  (cSeq (cIf (cNot (cTst (cCall M__law_each_pair (cCons (cVar 4) (cCons (cVar 5) (cCons (cVar 7) cNil))))))
  (cRet (cLit (.bool false)))
  cSkip)
  (cSeq (cUnp (gTp 2 (gsCons (gNm 8) (gsCons (gNm 9) gsNil))) (cCall M_grown_above (cCons (cVar 4) (cCons (cVar 5) (cCons (cLit (.int 1)) cNil)))))
  (cSeq (cIf (cTst (cBin opIsNotTr (cCall M_cut_good (cCons (cVar 8) (cCons (cBin opAdd (cVar 6) (cLit (.int 2))) (cCons (cCall M_cut_by (cCons (cVar 8) (cCons (cVar 9) cNil))) cNil)))) (cLit (.bool true))))
  (cRet (cLit (.bool false)))
  cSkip)
  (cIf (cTst (cBin opNe (cBin opIx (cVar 3) (cLit (.int 0))) (cLit (.str "ring"))))
  (cSeq (cSet 10 (cCall M_parted_for (cCons (cVar 3) cNil)))
  (cSeq (cIf (cTst (cBin opNe (cCall M_folds_by (cCons (cVar 4) (cCons (cVar 10) (cCons (cLit (.int 1)) cNil)))) (cCall M_cut_by (cCons (cVar 4) (cCons (cVar 10) cNil)))))
  (cRet (cLit (.bool false)))
  cSkip)
  (cIf (cTst (cBin opIsNotTr (cCall M_cut_good (cCons (cVar 4) (cCons (cBin opSub (cBin opMul (cLit (.int 2)) (cVar 6)) (cLit (.int 1))) (cCons (cCall M_folds_by (cCons (cVar 4) (cCons (cVar 10) (cCons (cLit (.int 2)) cNil)))) cNil)))) (cLit (.bool true))))
  (cRet (cLit (.bool false)))
  cSkip)))
  cSkip)))))))))))
abbrev c_law : CS := (cSeq (cFor (cIt (cBin opAdd (cLst (cCons (cCall M__law_cell_at (cCons (cVar 0) (cCons (cLit (.int 0)) cNil))) cNil)) (cSl (cVar 0) (cPart (cLit (.int 1))) (cPart (cLit (.int 2)))))) (gNm 1)
  b_law_1)
  (cRet (cLit (.bool true))))
def M_law : FM := mkF 1 11 c_law
theorem in_law {x0 : D} {m0 : Md} {T : D → Bool → List Slot → Prop} {E : Xc → List Slot → Prop} (h : gS (c_law [some (x0, m0), none, none, none, none, none, none, none, none, none, none]) (fun ρ => T .none false (ρ.take 1)) (fun d fr ρ => T d fr (ρ.take 1)) (fun x ρ => E x (ρ.take 1))) : gF (M_law [(x0, m0)]) T E := by
  unfold M_law
  with_reducible refine gF_mkE (c := c_law) ?_ ?_ h
  · rfl
  · rfl
end K74
namespace K74
open PySem PySem.Spec PyProof.Rows L2 TN
/-! numbers by folds, plainly -/
def numF (lo : Int) (c f : Nat) (x : Int) : Int := x + (f : Int) * (c : Int) * (if decide (x > lo) = true then 1 else 0)
def rowF (N : List Int) (lo : Int) (c M f t : Nat) : List Int := (N.map (numF lo c f)).map (rotI M t)
def idxF (F M : Nat) : List (Nat × Nat) := (List.range F).flatMap fun f => (List.range M).map fun t => (f, t)
def rowD (r : List Int) : D := .tuple (r.map .int)
def foldR (N : List Int) (lo : Int) (c M F : Nat) : List (List Int) := (idxF F M).map fun i => rowF N lo c M i.1 i.2
def prR (r : List Int) (u : Nat × Nat) : Nat × Nat := ((min (r.getD u.1 0) (r.getD u.2 0)).toNat, (max (r.getD u.1 0) (r.getD u.2 0)).toNat)
theorem idx_succ (F M : Nat) : idxF (F + 1) M = idxF F M ++ (List.range M).map fun t => (F, t) := by
  unfold idxF; rw [List.range_succ, List.flatMap_append]; simp
theorem idx_len (F M : Nat) : (idxF F M).length = F * M := by
  induction F with
  | zero => simp [idxF]
  | succ F ih => rw [idx_succ, List.length_append, ih, List.length_map, List.length_range, Nat.succ_mul]
theorem idx_mem {F M : Nat} {i : Nat × Nat} (h : i ∈ idxF F M) : i.1 < F ∧ i.2 < M := by
  unfold idxF at h
  simp only [List.mem_flatMap, List.mem_map, List.mem_range] at h
  obtain ⟨f, hf, t, ht, rfl⟩ := h
  exact ⟨hf, ht⟩
theorem idx_nd (F M : Nat) : (idxF F M).Nodup := by
  unfold idxF List.Nodup
  rw [List.pairwise_flatMap]
  refine ⟨fun f _ => ?_, ?_⟩
  · rw [List.pairwise_map]
    exact List.Pairwise.imp (fun {x y} hxy e => hxy (Prod.mk.inj e).2) (List.nodup_range (n := M))
  · refine List.Pairwise.imp ?_ (List.nodup_range (n := F))
    intro f g hne x hx y hy e
    obtain ⟨t, _, rfl⟩ := List.mem_map.mp hx
    obtain ⟨t', _, rfl⟩ := List.mem_map.mp hy
    exact hne (Prod.mk.inj e).1
theorem fold_succ (N : List Int) (lo : Int) (c M F : Nat) : foldR N lo c M (F + 1) = foldR N lo c M F ++ (List.range M).map fun t => rowF N lo c M F t := by
  unfold foldR; rw [idx_succ, List.map_append, List.map_map]; rfl
theorem fold_len (N : List Int) (lo : Int) (c M F : Nat) : (foldR N lo c M F).length = F * M := by
  unfold foldR; rw [List.length_map, idx_len]
structure Cut (n : Nat) (ts : List (Nat × Nat)) (N : List Int) (lo : Int) : Prop where
  gr : Gr n ts N
  t1 : 1 ≤ ts.length
  cut : ∀ t ∈ ts, min (N.getD t.1 0) (N.getD t.2 0) ≤ lo ∧ lo < max (N.getD t.1 0) (N.getD t.2 0)
section
variable {n M F c : Nat} {ts : List (Nat × Nat)} {N : List Int} {lo : Int}
theorem Cut.one (p : Cut n ts N lo) : (∃ t ∈ ts, absI (N.getD t.1 0 - N.getD t.2 0) = 1) ∧ ∀ t ∈ ts, absI (N.getD t.1 0 - N.getD t.2 0) = 1 → min (N.getD t.1 0) (N.getD t.2 0) = lo := by
  refine ⟨?_, fun t ht h => ?_⟩
  · have h1 := p.t1
    have : (1 : Int) ∈ steps N ts := p.gr.st.mem_iff.mpr (rg_mem0.mpr (by omega))
    unfold steps at this
    obtain ⟨t, ht, e⟩ := List.mem_map.mp this
    exact ⟨t, ht, e⟩
  · have := p.cut t ht
    unfold absI at h
    split at h <;> omega
/-- the numbers of both ends, in a fold -/
theorem Cut.pr (p : Cut n ts N lo) {f : Nat} (hf : f < F) {u : Nat × Nat} (hu : u ∈ ts) :
    ((0 ≤ numF lo ts.length f (N.getD u.1 0) ∧ numF lo ts.length f (N.getD u.1 0) ≤ ((ts.length * F : Nat) : Int)) ∧ (0 ≤ numF lo ts.length f (N.getD u.2 0) ∧ numF lo ts.length f (N.getD u.2 0) ≤ ((ts.length * F : Nat) : Int)) ∧ numF lo ts.length f (N.getD u.1 0) ≠ numF lo ts.length f (N.getD u.2 0)) ∧
    absI (numF lo ts.length f (N.getD u.1 0) - numF lo ts.length f (N.getD u.2 0)) = absI (N.getD u.1 0 - N.getD u.2 0) + (f : Int) * ts.length ∧ 1 ≤ absI (N.getD u.1 0 - N.getD u.2 0) ∧ absI (N.getD u.1 0 - N.getD u.2 0) ≤ ts.length := by
  have hr := p.gr.rp.rg (N.getD u.1 0, N.getD u.2 0) (List.mem_map.mpr ⟨u, hu, rfl⟩)
  obtain ⟨⟨r1, r2⟩, ⟨r3, r4⟩, r5⟩ := hr
  simp only at r1 r2 r3 r4 r5
  have hc := p.cut u hu
  have h1 : ((f + 1) * ts.length : Nat) ≤ ts.length * F := by rw [Nat.mul_comm]; exact Nat.mul_le_mul_left _ hf
  rw [Nat.succ_mul] at h1
  have h2 : (f : Int) * (ts.length : Int) = ((f * ts.length : Nat) : Int) := (Int.natCast_mul ..).symm
  unfold numF
  rw [h2]
  generalize f * ts.length = A at *
  generalize ts.length * F = B at *
  generalize N.getD u.1 0 = x at *
  generalize N.getD u.2 0 = y at *
  simp only [decide_eq_true_eq]
  by_cases hx : x > lo
  · have hy : ¬ y > lo := by omega
    rw [if_pos hx, if_neg hy, Int.mul_one, Int.mul_zero]
    unfold absI
    (repeat' split) <;> omega
  · have hy : y > lo := by omega
    rw [if_neg hx, if_pos hy, Int.mul_one, Int.mul_zero]
    unfold absI
    (repeat' split) <;> omega
theorem Cut.inj (p : Cut n ts N lo) {f g : Nat} {u v : Nat × Nat} (hu : u ∈ ts) (hv : v ∈ ts) (h : absI (numF lo ts.length f (N.getD u.1 0) - numF lo ts.length f (N.getD u.2 0)) = absI (numF lo ts.length g (N.getD v.1 0) - numF lo ts.length g (N.getD v.2 0))) : f = g ∧ absI (N.getD u.1 0 - N.getD u.2 0) = absI (N.getD v.1 0 - N.getD v.2 0) := by
  obtain ⟨_, a1, a2, a3⟩ := p.pr (F := f + 1) (f := f) (by omega) hu
  obtain ⟨_, b1, b2, b3⟩ := p.pr (F := g + 1) (f := g) (by omega) hv
  rw [a1, b1] at h
  rcases Nat.lt_trichotomy f g with q | q | q
  · exfalso
    have h1 : ((f : Int) + 1) * ts.length ≤ (g : Int) * ts.length := Int.mul_le_mul_of_nonneg_right (by omega) (by omega)
    rw [Int.add_mul, Int.one_mul] at h1
    omega
  · subst q; exact ⟨rfl, by omega⟩
  · exfalso
    have h1 : ((g : Int) + 1) * ts.length ≤ (f : Int) * ts.length := Int.mul_le_mul_of_nonneg_right (by omega) (by omega)
    rw [Int.add_mul, Int.one_mul] at h1
    omega
theorem row_at (hln : N.length = n) {f t u : Nat} (hu : u < n) : (rowF N lo c M f t).getD u 0 = rotI M t (numF lo c f (N.getD u 0)) := by
  unfold rowF
  rw [getD_map (by rw [List.length_map]; omega), getD_map (by omega)]
theorem row_pr (p : Cut n ts N lo) {f t : Nat} {u : Nat × Nat} (hu : u ∈ ts) : prR (rowF N lo ts.length M f t) u = prT M t (numF lo ts.length f (N.getD u.1 0), numF lo ts.length f (N.getD u.2 0)) := by
  have h := p.gr.lt u hu
  unfold prR prT
  rw [row_at p.gr.len h.1, row_at p.gr.len h.2]
def allF (ts : List (Nat × Nat)) (A : List (List Int)) : List (Nat × Nat) := A.flatMap fun r => ts.map (prR r)
theorem allF_nd (p : Cut n ts N lo) (hM : M = 2 * (ts.length * F) + 1) : (allF ts (foldR N lo ts.length M F)).Nodup := by
  have hst : ts.Pairwise fun u v => absI (N.getD u.1 0 - N.getD u.2 0) ≠ absI (N.getD v.1 0 - N.getD v.2 0) := by
    have h1 := p.gr.rp.df
    unfold pairsN at h1
    rw [List.pairwise_map] at h1
    exact h1
  unfold allF foldR List.Nodup
  rw [List.flatMap_map, List.pairwise_flatMap]
  refine ⟨fun i hi => ?_, ?_⟩
  · obtain ⟨h1, h2⟩ := idx_mem hi
    rw [List.pairwise_map]
    refine List.Pairwise.imp_of_mem (fun {u v} hu hv hne e => hne ?_) hst
    rw [row_pr p hu, row_pr p hv] at e
    exact (p.inj hu hv (pr_step hM (p.pr h1 hu).1 (p.pr h1 hv).1 h2 h2 e)).2
  · refine List.Pairwise.imp_of_mem ?_ (idx_nd F M)
    intro i j hi hj hne x hx y hy e
    obtain ⟨h1, h2⟩ := idx_mem hi
    obtain ⟨h3, h4⟩ := idx_mem hj
    obtain ⟨u, hu, rfl⟩ := List.mem_map.mp hx
    obtain ⟨v, hv, rfl⟩ := List.mem_map.mp hy
    rw [row_pr p hu, row_pr p hv] at e
    obtain ⟨h5, h6⟩ := p.inj hu hv (pr_step hM (p.pr h1 hu).1 (p.pr h3 hv).1 h2 h4 e)
    have h7 : u = v := pw_inj (f := fun u : Nat × Nat => absI (N.getD u.1 0 - N.getD u.2 0)) hst hu hv h6
    subst h7
    rw [h5] at e
    have h8 := pr_turn hM (p.pr h3 hu).1 h2 h4 e
    exact hne (Prod.ext h5 h8)
theorem allF_len (A : List (List Int)) : (allF ts A).length = A.length * ts.length := by
  induction A with
  | nil => simp [allF]
  | cons r A ih =>
    have : allF ts (r :: A) = ts.map (prR r) ++ allF ts A := by simp [allF]
    rw [this, List.length_append, ih, List.length_map, List.length_cons, Nat.succ_mul, Nat.add_comm]
theorem allF_new {A pre post : List (List Int)} {r : List Int} {tp tq : List (Nat × Nat)} {u : Nat × Nat} (hnd : (allF ts A).Nodup) (hA : A = pre ++ r :: post) (hT : ts = tp ++ u :: tq) : prR r u ∉ allF ts pre ++ tp.map (prR r) := by
  intro hm
  have e : allF ts A = (allF ts pre ++ tp.map (prR r)) ++ (prR r u :: (tq.map (prR r) ++ allF ts post)) := by
    rw [hA]
    unfold allF
    rw [List.flatMap_append, List.flatMap_cons]
    conv => lhs; arg 2; arg 1; rw [hT]
    simp
  rw [e] at hnd
  exact (List.nodup_append.mp hnd).2.2 _ hm (prR r u) (by simp) rfl
end
/-! a cut is good -/
structure RowOk (n : Nat) (s : Int) (r : List Int) : Prop where
  len : r.length = n
  rg : ∀ x ∈ r, 0 ≤ x ∧ x < s
  nd : r.Nodup
section
variable {n : Nat} {ts : List (Nat × Nat)} {A : List (List Int)} {s : Int}
theorem copy_run {r : List Int} (hw : WebOk n ts) (h : RowOk n s r) : (M_copy_good [(webD n ts, .fz), (.int s, .fz), (rowD r, .fz)]).rv = some (.bool true, false) := by
  have hnl := hw.nl
  have hl := h.len
  have hti : opIsi "tuple" (rowD r) = some (.val (.bool true)) := rfl
  have hln : fLen [rowD r] = some (.val (.int (n : Nat))) := by unfold rowD; rw [fLen_t, List.length_map, hl]
  have hwn := web_n n ts
  have hne : opNe (.int (n : Nat)) (.int (n : Nat)) = some (.val (.bool false)) := by rw [opNe_int]; simp
  have hal : fAll [.list (r.map fun _ => PyData.bool true)] = some (.val (.bool true)) := by
    have := fAll_map r (fun _ => true)
    rw [show (r.all fun _ => true) = true by simp] at this
    exact this
  have hls : fLenSet (rowD r) = some (.val (.int (n : Nat))) := by
    have := fLenSet_t r (by omega)
    rw [(dd_nd r).mpr h.nd, hl] at this
    exact this
  have heq : opEq (.int (n : Nat)) (.int (n : Nat)) = some (.val (.bool true)) := by rw [opEq_int]; simp
  have hrD : rowD r = .tuple (r.map .int) := rfl
  with_reducible refine rv_gF (in_copy_good ?_)
  repeat' (first | (with_reducible apply gO_of hti) | (with_reducible apply gO_of hln) | (with_reducible apply gO_of hwn) | (with_reducible apply gO_of hne) | array_mem_dec)
  rw [hrD]
  repeat' array_mem_dec
  refine TN.cp_map (r) (.int) (fun _ => .bool true) rfl (by (first | omega | (simp; done) | (simp; omega))) (by (first | exact rfl | (repeat (first | exact TN.wOk_nil | ((apply TN.wOk_cons); exact rfl; (first | exact TN.okW_none | exact TN.okW_fz | exact TN.okW_jk | assumption)))))) (by (repeat (first | exact wipe_nil | apply wipe_cons | exact st0 | apply stS))) ?_ ?_
  · intro x hx
    have h1 := h.rg x hx
    have hwr : (MMWhole [(.int x, .fz)]).rv = some (.bool true, false) := whole_run (.int x)
    have h2 := h1.1
    have h3 := h1.2
    repeat' (first | array_mem_dec | ((with_reducible refine TN.c_rv ?_ ?_ hwr ?_); exact rfl; exact rfl))
    exact ⟨by rw [decide_eq_true h3], rfl⟩
  · rw [← hrD]
    generalize rowD r = RD at *
    repeat' (first | (with_reducible apply gO_of hal) | (with_reducible apply gO_of hls) | (with_reducible apply gO_of hln) | (with_reducible apply gO_of heq) | array_mem_dec)
    exact ⟨rfl, rfl⟩
theorem ties_run {r : List Int} (hw : WebOk n ts) (h : RowOk n s r) : (M_copy_ties [(webD n ts, .fz), (rowD r, .fz)]).rv = some (.list ((ts.map (prR r)).map tieD), true) := by
  have hlt := hw.lt
  have htl := hw.tl
  have hl := h.len
  have hwt := web_ties n ts
  have key : ts.map (fun u => tieD (prR r u)) = (ts.map (prR r)).map tieD := by rw [List.map_map]; rfl
  have hr0 : ∀ u, u < n → 0 ≤ r.getD u 0 := fun u hu => (h.rg _ (getD_memI (by omega))).1
  have hrD : rowD r = .tuple (r.map .int) := rfl
  rw [hrD]
  generalize webD n ts = WD at *
  with_reducible refine rv_gF (in_copy_ties ?_)
  repeat' (first | (with_reducible apply gO_of hwt) | array_mem_dec)
  refine TN.cp_map (ts) (tieD) (fun u => tieD (prR r u)) rfl (by (first | omega | (simp; done) | (simp; omega))) (by (first | exact rfl | (repeat (first | exact TN.wOk_nil | ((apply TN.wOk_cons); exact rfl; (first | exact TN.okW_none | exact TN.okW_fz | exact TN.okW_jk | assumption)))))) (by (repeat (first | exact wipe_nil | apply wipe_cons | exact st0 | apply stS))) ?_ ?_
  · intro u hu
    have h2 := hlt u hu
    have i1 : opIx (.tuple (r.map .int)) (.int (u.1 : Nat)) = some (.val (.int (r.getD u.1 0))) := ix_ints (by omega)
    have i2 : opIx (.tuple (r.map .int)) (.int (u.2 : Nat)) = some (.val (.int (r.getD u.2 0))) := ix_ints (by omega)
    have a1 := hr0 u.1 h2.1
    have a2 := hr0 u.2 h2.2
    have et : PyData.tuple [.int (min (r.getD u.1 0) (r.getD u.2 0)), .int (max (r.getD u.1 0) (r.getD u.2 0))] = tieD (prR r u) := tie_eq (t := prR r u) (by unfold prR; simp only; omega) (by unfold prR; simp only; omega)
    have mn := min2_i (r.getD u.1 0) (r.getD u.2 0)
    have mx : fMax2 [.int (r.getD u.1 0), .int (r.getD u.2 0)] = some (.val (.int (max (r.getD u.1 0) (r.getD u.2 0)))) := by
      rw [fMax2_i]
      split <;> (congr 3; omega)
    repeat' (first | (with_reducible apply gO_of i1) | (with_reducible apply gO_of i2) | (with_reducible apply gO_of mn) | (with_reducible apply gO_of mx) | array_mem_dec)
    exact ⟨by rw [et], rfl⟩
  · rw [key]
    repeat' array_mem_dec
    exact ⟨rfl, rfl⟩
theorem in_dictD (F : List (Nat × Nat)) (t : Nat × Nat) : opIn (tieD t) (dictD F) = some (.val (.bool (decide (t ∈ F)))) := by
  have hk : tkOf (tieD t) = some [.inl (t.1 : Int), .inl (t.2 : Int)] := rfl
  show (dGet ((.none, .none) :: F.map fun t => (tieD t, PyData.bool true)) (tieD t)).map (fun o => Pl.val (.bool o.isSome)) = _
  unfold dGet
  simp only [hk, lookT_tie]
  by_cases h : t ∈ F
  · rw [if_pos h, decide_eq_true h]; rfl
  · rw [if_neg h, decide_eq_false h]; rfl
theorem cut_lent (hw : WebOk n ts) (hr : ∀ r ∈ A, RowOk n s r) (hnd : (allF ts A).Nodup) (hA : A.length ≤ 200) (ht : ts.length ≤ 60) (hS : -1000000000 < s ∧ s < 1000000000) : M_cut_good [(webD n ts, .fz), (.int s, .fz), (.list (A.map rowD), .lent)] = .ok (.bool (decide (2 * ((A.length * ts.length : Nat) : Int) = s * (s - 1)))) false [some (webD n ts, .fz), some (.int s, .fz), some (.list (A.map rowD), .lz)] := by
  have hal := allF_len (ts := ts) A
  have hlt := hw.lt
  have hbl : A.length * ts.length ≤ 200 * 60 := Nat.mul_le_mul hA ht
  have hil : opIsi "list" (.list (A.map rowD)) = some (.val (.bool true)) := rfl
  have hall : fAll [.list (A.map fun _ => PyData.bool true)] = some (.val (.bool true)) := by
    have := fAll_map A (fun _ => true)
    rw [show (A.all fun _ => true) = true by simp] at this
    exact this
  have hfd := fLen_dict (allF ts A)
  rw [hal] at hfd
  have hm2 : opMul (.int 2) (.int ((A.length * ts.length : Nat) : Int)) = some (.val (.int (2 * ((A.length * ts.length : Nat) : Int)))) := opMul_ii (by omega)
  have h0s : -1000000000 < s ∧ s < 1000000000 := hS
  have hm3 : opMul (.int s) (.int (s - 1)) = some (.val (.int (s * (s - 1)))) := opMul_ii h0s
  have heq : opEq (.int (2 * ((A.length * ts.length : Nat) : Int))) (.int (s * (s - 1))) = some (.val (.bool (decide (2 * ((A.length * ts.length : Nat) : Int) = s * (s - 1))))) := opEq_int _ _
  have hg := ex_gF (r := M_cut_good [(webD n ts, .fz), (.int s, .fz), (.list (A.map rowD), .lent)]) (T := fun d fr o => d = .bool (decide (2 * ((A.length * ts.length : Nat) : Int) = s * (s - 1))) ∧ fr = false ∧ o = [some (webD n ts, .fz), some (.int s, .fz), some (.list (A.map rowD), .lz)]) ?_
  · obtain ⟨d, fr, o, e, rfl, rfl, rfl⟩ := hg
    exact e
  · with_reducible refine in_cut_good ?_
    repeat' (first | (apply gO_of hil) | array_mem_dec)
    refine TN.cp_map (A) (rowD) (fun _ => .bool true) rfl (by (first | omega | (simp; done) | (simp; omega))) (by (first | exact rfl | (repeat (first | exact TN.wOk_nil | ((apply TN.wOk_cons); exact rfl; (first | exact TN.okW_none | exact TN.okW_fz | exact TN.okW_jk | assumption)))))) (by (repeat (first | exact wipe_nil | apply wipe_cons | exact st0 | apply stS))) ?_ ?_
    · intro r hra
      have hc := copy_run hw (hr r hra)
      generalize rowD r = RD at *
      repeat' (first | array_mem_dec | ((with_reducible refine TN.c_rv ?_ ?_ hc ?_); exact rfl; exact rfl))
      exact ⟨rfl, rfl⟩
    · repeat' (first | (apply gO_of hall) | array_mem_dec)
      refine for_inv A rowD (fun pre ρ => ∃ j4 j5, ρ = [some (webD n ts, .fz), some (.int s, .fz), some (.list (A.map rowD), .lz), some (dictD (allF ts pre), .own), jk j4, jk j5]) rfl ⟨none, none, rfl⟩ ?_ ?_
      · rintro pre r post _ hE ⟨j4, j5, rfl⟩
        have hra : r ∈ A := by rw [hE]; simp
        have hct := ties_run hw (hr r hra)
        have hnew := fun (tp tq : List (Nat × Nat)) (u : Nat × Nat) (hT : ts = tp ++ u :: tq) => allF_new hnd hE hT
        have hle : (allF ts pre).length ≤ A.length * ts.length := by
          rw [← hal, hE]; unfold allF; rw [List.flatMap_append, List.length_append]; omega
        have hsn : allF ts (pre ++ [r]) = allF ts pre ++ ts.map (prR r) := by simp [allF]
        rw [hsn]
        generalize allF ts pre = F0 at *
        generalize A.map rowD = AD at *
        generalize rowD r = RD at *
        repeat' (first | array_mem_dec | ((with_reducible refine TN.c_rvT ?_ ?_ hct ?_); exact rfl; exact rfl))
        refine for_inv ts (fun u => tieD (prR r u)) (fun pre ρ => ∃ j5, ρ = [some (webD n ts, .fz), some (.int s, .fz), some (.list AD, .lz), some (dictD (F0 ++ pre.map (prR r)), .own), some (RD, .fz), jk j5]) (by rw [List.map_map]; rfl) ⟨j5, by simp⟩ ?_ ?_
        · rintro pre u post _ hE2 ⟨j5, rfl⟩
          have hpl2 : pre.length ≤ ts.length := by rw [hE2]; simp
          have hnw := hnew _ _ _ hE2
          have hin := in_dictD (F0 ++ pre.map (prR r)) (prR r u)
          rw [decide_eq_false hnw] at hin
          have hput : putA (dictD (F0 ++ pre.map (prR r))) (tieD (prR r u)) (.bool true) = some (dictD (F0 ++ (pre ++ [u]).map (prR r))) := by
            rw [put_tie _ (by rw [List.length_append, List.length_map]; omega)]
            unfold addT
            rw [if_neg hnw]
            simp
          generalize dictD (F0 ++ pre.map (prR r)) = D0 at *
          generalize tieD (prR r u) = TU at *
          repeat' (first | (apply gO_of hin) | (apply put_rfl hput) | array_mem_dec)
          exact ⟨some TU, rfl⟩
        · rintro _ ⟨j5, rfl⟩
          exact ⟨some RD, j5, rfl⟩
      · rintro _ ⟨j4, j5, rfl⟩
        generalize A.map rowD = AD at *
        repeat' (first | (apply gO_of hfd) | (with_reducible apply gO_of hm2) | (with_reducible apply gO_of hm3) | (with_reducible apply gO_of heq) | array_mem_dec)
        exact ⟨rfl, rfl, rfl⟩
theorem cut_fz (hw : WebOk n ts) (hr : ∀ r ∈ A, RowOk n s r) (hnd : (allF ts A).Nodup) (hA : A.length ≤ 200) (ht : ts.length ≤ 60) (hS : -1000000000 < s ∧ s < 1000000000) : M_cut_good [(webD n ts, .fz), (.int s, .fz), (.list (A.map rowD), .fz)] = .ok (.bool (decide (2 * ((A.length * ts.length : Nat) : Int) = s * (s - 1)))) false [some (webD n ts, .fz), some (.int s, .fz), some (.list (A.map rowD), .fz)] := by
  have hal := allF_len (ts := ts) A
  have hlt := hw.lt
  have hbl : A.length * ts.length ≤ 200 * 60 := Nat.mul_le_mul hA ht
  have hil : opIsi "list" (.list (A.map rowD)) = some (.val (.bool true)) := rfl
  have hall : fAll [.list (A.map fun _ => PyData.bool true)] = some (.val (.bool true)) := by
    have := fAll_map A (fun _ => true)
    rw [show (A.all fun _ => true) = true by simp] at this
    exact this
  have hfd := fLen_dict (allF ts A)
  rw [hal] at hfd
  have hm2 : opMul (.int 2) (.int ((A.length * ts.length : Nat) : Int)) = some (.val (.int (2 * ((A.length * ts.length : Nat) : Int)))) := opMul_ii (by omega)
  have h0s : -1000000000 < s ∧ s < 1000000000 := hS
  have hm3 : opMul (.int s) (.int (s - 1)) = some (.val (.int (s * (s - 1)))) := opMul_ii h0s
  have heq : opEq (.int (2 * ((A.length * ts.length : Nat) : Int))) (.int (s * (s - 1))) = some (.val (.bool (decide (2 * ((A.length * ts.length : Nat) : Int) = s * (s - 1))))) := opEq_int _ _
  have hg := ex_gF (r := M_cut_good [(webD n ts, .fz), (.int s, .fz), (.list (A.map rowD), .fz)]) (T := fun d fr o => d = .bool (decide (2 * ((A.length * ts.length : Nat) : Int) = s * (s - 1))) ∧ fr = false ∧ o = [some (webD n ts, .fz), some (.int s, .fz), some (.list (A.map rowD), .fz)]) ?_
  · obtain ⟨d, fr, o, e, rfl, rfl, rfl⟩ := hg
    exact e
  · with_reducible refine in_cut_good ?_
    repeat' (first | (apply gO_of hil) | array_mem_dec)
    refine TN.cp_map (A) (rowD) (fun _ => .bool true) rfl (by (first | omega | (simp; done) | (simp; omega))) (by (first | exact rfl | (repeat (first | exact TN.wOk_nil | ((apply TN.wOk_cons); exact rfl; (first | exact TN.okW_none | exact TN.okW_fz | exact TN.okW_jk | assumption)))))) (by (repeat (first | exact wipe_nil | apply wipe_cons | exact st0 | apply stS))) ?_ ?_
    · intro r hra
      have hc := copy_run hw (hr r hra)
      generalize rowD r = RD at *
      repeat' (first | array_mem_dec | ((with_reducible refine TN.c_rv ?_ ?_ hc ?_); exact rfl; exact rfl))
      exact ⟨rfl, rfl⟩
    · repeat' (first | (apply gO_of hall) | array_mem_dec)
      refine for_inv A rowD (fun pre ρ => ∃ j4 j5, ρ = [some (webD n ts, .fz), some (.int s, .fz), some (.list (A.map rowD), .fz), some (dictD (allF ts pre), .own), jk j4, jk j5]) rfl ⟨none, none, rfl⟩ ?_ ?_
      · rintro pre r post _ hE ⟨j4, j5, rfl⟩
        have hra : r ∈ A := by rw [hE]; simp
        have hct := ties_run hw (hr r hra)
        have hnew := fun (tp tq : List (Nat × Nat)) (u : Nat × Nat) (hT : ts = tp ++ u :: tq) => allF_new hnd hE hT
        have hle : (allF ts pre).length ≤ A.length * ts.length := by
          rw [← hal, hE]; unfold allF; rw [List.flatMap_append, List.length_append]; omega
        have hsn : allF ts (pre ++ [r]) = allF ts pre ++ ts.map (prR r) := by simp [allF]
        rw [hsn]
        generalize allF ts pre = F0 at *
        generalize A.map rowD = AD at *
        generalize rowD r = RD at *
        repeat' (first | array_mem_dec | ((with_reducible refine TN.c_rvT ?_ ?_ hct ?_); exact rfl; exact rfl))
        refine for_inv ts (fun u => tieD (prR r u)) (fun pre ρ => ∃ j5, ρ = [some (webD n ts, .fz), some (.int s, .fz), some (.list AD, .fz), some (dictD (F0 ++ pre.map (prR r)), .own), some (RD, .fz), jk j5]) (by rw [List.map_map]; rfl) ⟨j5, by simp⟩ ?_ ?_
        · rintro pre u post _ hE2 ⟨j5, rfl⟩
          have hpl2 : pre.length ≤ ts.length := by rw [hE2]; simp
          have hnw := hnew _ _ _ hE2
          have hin := in_dictD (F0 ++ pre.map (prR r)) (prR r u)
          rw [decide_eq_false hnw] at hin
          have hput : putA (dictD (F0 ++ pre.map (prR r))) (tieD (prR r u)) (.bool true) = some (dictD (F0 ++ (pre ++ [u]).map (prR r))) := by
            rw [put_tie _ (by rw [List.length_append, List.length_map]; omega)]
            unfold addT
            rw [if_neg hnw]
            simp
          generalize dictD (F0 ++ pre.map (prR r)) = D0 at *
          generalize tieD (prR r u) = TU at *
          repeat' (first | (apply gO_of hin) | (apply put_rfl hput) | array_mem_dec)
          exact ⟨some TU, rfl⟩
        · rintro _ ⟨j5, rfl⟩
          exact ⟨some RD, j5, rfl⟩
      · rintro _ ⟨j4, j5, rfl⟩
        generalize A.map rowD = AD at *
        repeat' (first | (apply gO_of hfd) | (with_reducible apply gO_of hm2) | (with_reducible apply gO_of hm3) | (with_reducible apply gO_of heq) | array_mem_dec)
        exact ⟨rfl, rfl, rfl⟩
end
end K74
namespace K74
open PySem PySem.Spec PyProof.Rows L2 TN
/-! the rows of the cuts -/
theorem rot_inj {M t : Nat} {x y : Int} (hx : 0 ≤ x ∧ x < M) (hy : 0 ≤ y ∧ y < M) (ht : t < M) (h : rotI M t x = rotI M t y) : x = y := by
  obtain ⟨_, _, a⟩ := rot_cases hx.1 hx.2 ht
  obtain ⟨_, _, b⟩ := rot_cases hy.1 hy.2 ht
  omega
def cutR (N : List Int) (M : Nat) : List (List Int) := (List.range M).map fun t => N.map (rotI M t)
theorem copies_eq (N : List Int) (M : Nat) : copiesD N M = (cutR N M).map rowD := by
  unfold copiesD cutR
  rw [List.map_map]; rfl
theorem cutR_len (N : List Int) (M : Nat) : (cutR N M).length = M := by simp [cutR]
section
variable {n M : Nat} {ts : List (Nat × Nat)} {N : List Int}
theorem rowok {N : List Int} (hl : N.length = n) (hr : ∀ x ∈ N, 0 ≤ x ∧ x < (M : Int)) (hn : N.Nodup) {t : Nat} (ht : t < M) : RowOk n M (N.map (rotI M t)) := by
  refine ⟨by rw [List.length_map, hl], fun x hx => ?_, ?_⟩
  · obtain ⟨y, hy, rfl⟩ := List.mem_map.mp hx
    obtain ⟨a, b, _⟩ := rot_cases (hr y hy).1 (hr y hy).2 ht
    exact ⟨a, b⟩
  · unfold List.Nodup
    rw [List.pairwise_map]
    exact List.Pairwise.imp_of_mem (fun {x y} hx hy hne e => hne (rot_inj (hr x hx) (hr y hy) ht e)) hn
theorem cutR_ok (g : Gr n ts N) (hM : M = 2 * ts.length + 1) : ∀ r ∈ cutR N M, RowOk n M r := fun r hr => by
  unfold cutR at hr
  obtain ⟨t, ht, rfl⟩ := List.mem_map.mp hr
  exact rowok g.len (fun x hx => by have := g.rng x hx; omega) g.nd (List.mem_range.mp ht)
theorem cutR_nd (g : Gr n ts N) (hM : M = 2 * ts.length + 1) : (allF ts (cutR N M)).Nodup := by
  have h := allP_nd hM g.rp
  have e : allF ts (cutR N M) = allP M (pairsN N ts) M := by
    unfold allF cutR allP pairsN
    rw [List.flatMap_map]
    congr 1
    funext t
    rw [List.map_map]
    refine List.map_congr_left fun u hu => ?_
    have hl := g.lt u hu
    have hn := g.len
    simp only [Function.comp]
    unfold prR prT
    rw [getD_map (by omega), getD_map (by omega)]
  rw [e]; exact h
theorem foldR_ok {lo : Int} {F : Nat} (p : Cut n ts N lo) (hM : M = 2 * (ts.length * F) + 1) : ∀ r ∈ foldR N lo ts.length M F, RowOk n M r := fun r hr => by
  unfold foldR at hr
  obtain ⟨i, hi, rfl⟩ := List.mem_map.mp hr
  obtain ⟨hf, ht⟩ := idx_mem hi
  have h1 : ((i.1 + 1) * ts.length : Nat) ≤ ts.length * F := by rw [Nat.mul_comm]; exact Nat.mul_le_mul_left _ hf
  rw [Nat.succ_mul] at h1
  have h2 : (i.1 : Int) * (ts.length : Int) = ((i.1 * ts.length : Nat) : Int) := (Int.natCast_mul ..).symm
  unfold rowF
  refine rowok (by rw [List.length_map, p.gr.len]) (fun x hx => ?_) ?_ ht
  · obtain ⟨y, hy, rfl⟩ := List.mem_map.mp hx
    have := p.gr.rng y hy
    unfold numF
    rw [h2]
    split <;> omega
  · unfold List.Nodup
    rw [List.pairwise_map]
    refine List.Pairwise.imp (fun {x y} hne e => hne ?_) p.gr.nd
    unfold numF at e
    rw [h2] at e
    simp only [decide_eq_true_eq] at e
    split at e <;> split at e <;> omega
end
end K74
namespace K74
open PySem PySem.Spec PyProof.Rows L2 TN
/-! where two places are tied (as in k72) -/
def lowT (N : List Int) (u : Nat × Nat) : Int := min (N.getD u.1 0) (N.getD u.2 0)
def stpT (N : List Int) (u : Nat × Nat) : Int := absI (N.getD u.1 0 - N.getD u.2 0)
def hit (M : Nat) (N : List Int) (x y : Int) (u : Nat × Nat) : Prop := (y - x) % (M : Int) = stpT N u ∨ (x - y) % (M : Int) = stpT N u
instance {M : Nat} {N : List Int} {x y : Int} : DecidablePred (hit M N x y) := fun u => by unfold hit; exact inferInstance
def trn (M : Nat) (N : List Int) (x y : Int) (u : Nat × Nat) : Int := if (y - x) % (M : Int) = stpT N u then (x - lowT N u) % (M : Int) else (y - lowT N u) % (M : Int)
def badP (M : Nat) (d : D) : Prop := isIntD d = false ∨ ∃ i : Int, d = .int i ∧ (i < 0 ∨ (M : Int) ≤ i)
section
variable {n M : Nat} {ts : List (Nat × Nat)} {N : List Int}
theorem ok_run {x y : Int} {XX : D} {NN : Rho → Prop} {TT : D → Bool → Rho → Prop} {EE : Xc → Rho → Prop} (hl : ts.length ≤ 30) (hM : 2 * (ts.length : Int) + 1 = (M : Int)) (hx : 0 ≤ x ∧ x < M) (hy : 0 ≤ y ∧ y < M)
    (k : ∀ j6, gS ((cSeq (cIf (cTst (cBin opEq (cVar 2) (cVar 3)))
  (cRaise "NoPlace")
  cSkip)
  (cSeq (cFor (cEnum (cBin opIx (cVar 0) (cLit (.int 1)))) (gTp 2 (gsCons (gNm 7) (gsCons (gNm 8) gsNil)))
  b_found_in_2)
  (cRaise "NoPlace"))) [some (webD n ts, .fz), some (XX, .fz), some (.int x, .fz), some (.int y, .fz), some (.int (ts.length : Nat), .fz), some (.int (M : Nat), .fz), jk j6, none, none, none, none]) NN TT EE) : gS (c_found_in [some (webD n ts, .fz), some (XX, .fz), some (.int x, .fz), some (.int y, .fz), none, none, none, none, none, none, none]) NN TT EE := by
  have h1 := folded_ok hl
  repeat' (first | array_mem_dec | ((with_reducible refine TN.c_rv ?_ ?_ h1 ?_); exact rfl; exact rfl))
  rw [hM]
  refine for_inv [x, y] .int (fun pre ρ => ∃ j6, ρ = [some (webD n ts, .fz), some (XX, .fz), some (.int x, .fz), some (.int y, .fz), some (.int (ts.length : Nat), .fz), some (.int (M : Nat), .fz), jk j6, none, none, none, none]) rfl ⟨none, rfl⟩ ?_ ?_
  · rintro pre i post _ hE ⟨j6, rfl⟩
    have hi : i = x ∨ i = y := by
      have : i ∈ [x, y] := by rw [hE]; simp
      simpa using this
    have hw := whole_run (.int i)
    repeat' (first | (apply br_n (show ¬ i < 0 by omega)) | (apply br_n (show ¬ i ≥ M by omega)) | array_mem_dec | ((with_reducible refine TN.c_rv ?_ ?_ hw ?_); exact rfl; exact rfl))
    exact ⟨some (.int i), rfl⟩
  · rintro _ ⟨j6, rfl⟩
    exact k j6
theorem found_run {x y : Int} {pre post : List (Nat × Nat)} {u : Nat × Nat} (hw : WebOk n ts) (hl : ts.length ≤ 30) (hln : N.length = n) (hM : 2 * (ts.length : Int) + 1 = (M : Int)) (hx : 0 ≤ x ∧ x < M) (hy : 0 ≤ y ∧ y < M) (hne : x ≠ y)
    (hE : ts = pre ++ u :: post) (h1 : ∀ v ∈ pre, ¬ hit M N x y v) (h2 : hit M N x y u) : (M_found_in [(webD n ts, .fz), (.tuple (N.map .int), .fz), (.int x, .fz), (.int y, .fz)]).rv = some (.tuple [.int (trn M N x y u), .int (pre.length : Nat)], false) := by
  have hlt := hw.lt
  refine rv_gF (in_found_in ?_)
  refine ok_run hl hM hx hy fun j6 => ?_
  repeat' (first | (apply br_n hne) | array_mem_dec)
  refine for_enum ts tieD (fun p ρ => (∃ q, pre = p ++ q) ∧ ∃ j7 j8 j9 j10, ρ = [some (webD n ts, .fz), some (.tuple (N.map .int), .fz), some (.int x, .fz), some (.int y, .fz), some (.int (ts.length : Nat), .fz), some (.int (M : Nat), .fz), jk j6, jk j7, jk j8, jk j9, jk j10]) rfl ⟨⟨pre, rfl⟩, none, none, none, none, rfl⟩ ?_ ?_
  · rintro p v q _ hE2 ⟨⟨r, hr⟩, j7, j8, j9, j10, rfl⟩
    have hv : v ∈ ts := by rw [hE2]; simp
    have h3 := hlt v hv
    have i1 : opIx (.tuple (N.map .int)) (.int (v.1 : Nat)) = some (.val (.int (N.getD v.1 0))) := ix_ints (by omega)
    have i2 : opIx (.tuple (N.map .int)) (.int (v.2 : Nat)) = some (.val (.int (N.getD v.2 0))) := ix_ints (by omega)
    have t1 : opIx (tieD v) (.int 0) = some (.val (.int (v.1 : Nat))) := rfl
    have t2 : opIx (tieD v) (.int 1) = some (.val (.int (v.2 : Nat))) := rfl
    have hMp : (0 : Int) < M := by omega
    rw [hr, List.append_assoc] at hE
    have hE3 := List.append_cancel_left (hE2.symm.trans hE)
    cases r with
    | nil =>
      obtain ⟨rfl, _⟩ := List.cons.inj (show v :: q = u :: post from hE3)
      have hpl : pre.length = p.length := by rw [hr]; simp
      rw [hpl]
      generalize tieD v = TD at *
      repeat' array_mem_dec
      refine br_dec (fun e1 => ?_) fun e1 => ?_
      · repeat' array_mem_dec
        refine ⟨?_, rfl⟩
        unfold trn
        rw [if_pos (show (y - x) % (M : Int) = stpT N v from e1)]; rfl
      · have e2 : (x - y) % (M : Int) = stpT N v := h2.resolve_left e1
        repeat' (first | (apply br_p e2) | array_mem_dec)
        refine ⟨?_, rfl⟩
        unfold trn
        rw [if_neg (show ¬ (y - x) % (M : Int) = stpT N v from e1)]; rfl
    | cons v' r =>
      obtain ⟨rfl, _⟩ := List.cons.inj (show v :: q = v' :: (r ++ u :: post) from hE3)
      have hnh := h1 v (by rw [hr]; simp)
      have e1 : ¬ (y - x) % (M : Int) = stpT N v := fun z => hnh (.inl z)
      have e2 : ¬ (x - y) % (M : Int) = stpT N v := fun z => hnh (.inr z)
      generalize hTD : tieD v = TD at *
      repeat' (first | (apply br_n e1) | (apply br_n e2) | array_mem_dec)
      exact ⟨⟨r, by rw [hr, List.append_assoc]; rfl⟩, some (.int (p.length : Nat)), some TD, some (.int (lowT N v)), some (.int (stpT N v)), rfl⟩
  · rintro _ ⟨⟨r, hr⟩, _⟩
    exfalso
    rw [hr] at hE
    have := congrArg List.length hE
    simp at this
theorem dd {x y : Int} (hM : 2 * (ts.length : Int) + 1 = (M : Int)) (hx : 0 ≤ x ∧ x < M) (hy : 0 ≤ y ∧ y < M) (hne : x ≠ y) : 1 ≤ (y - x) % (M : Int) ∧ 1 ≤ (x - y) % (M : Int) ∧ (y - x) % (M : Int) + (x - y) % (M : Int) = M := by
  have h1 := em_cases (M := M) (x := y - x) (by omega) (by omega) (by omega)
  have h2 := em_cases (M := M) (x := x - y) (by omega) (by omega) (by omega)
  generalize (y - x) % (M : Int) = a at *
  generalize (x - y) % (M : Int) = b at *
  omega
theorem hit_ex {x y : Int} (g : Gr n ts N) (hM : 2 * (ts.length : Int) + 1 = (M : Int)) (hx : 0 ≤ x ∧ x < M) (hy : 0 ≤ y ∧ y < M) (hne : x ≠ y) : ∃ u ∈ ts, hit M N x y u := by
  obtain ⟨h1, h2, h3⟩ := dd hM hx hy hne
  have hm : ∀ s : Int, 1 ≤ s → s ≤ ts.length → ∃ u ∈ ts, stpT N u = s := fun s a b => by
    have : s ∈ steps N ts := g.st.mem_iff.mpr (rg_mem0.mpr (by omega))
    obtain ⟨u, hu, e⟩ := List.mem_map.mp this
    exact ⟨u, hu, e⟩
  by_cases h : (y - x) % (M : Int) ≤ ts.length
  · obtain ⟨u, hu, e⟩ := hm _ h1 h
    exact ⟨u, hu, .inl e.symm⟩
  · obtain ⟨u, hu, e⟩ := hm _ h2 (by omega)
    exact ⟨u, hu, .inr e.symm⟩
theorem trn_sym {x y : Int} {u : Nat × Nat} (hM : 2 * (ts.length : Int) + 1 = (M : Int)) (hx : 0 ≤ x ∧ x < M) (hy : 0 ≤ y ∧ y < M) (hne : x ≠ y) (h : hit M N x y u) : trn M N y x u = trn M N x y u := by
  obtain ⟨h1, h2, h3⟩ := dd hM hx hy hne
  unfold trn
  unfold hit at h
  by_cases e : (y - x) % (M : Int) = stpT N u
  · rw [if_pos e, if_neg (by omega)]
  · rw [if_neg e, if_pos (h.resolve_left e)]
theorem trn_ends {x y : Int} {u : Nat × Nat} (g : Gr n ts N) (hu : u ∈ ts) (hM : 2 * (ts.length : Int) + 1 = (M : Int)) (hx : 0 ≤ x ∧ x < M) (hy : 0 ≤ y ∧ y < M) (hne : x ≠ y) (h : hit M N x y u) :
    (0 ≤ trn M N x y u ∧ trn M N x y u < M) ∧ (((N.getD u.1 0 + trn M N x y u) % (M : Int) = x ∧ (N.getD u.2 0 + trn M N x y u) % (M : Int) = y) ∨ ((N.getD u.1 0 + trn M N x y u) % (M : Int) = y ∧ (N.getD u.2 0 + trn M N x y u) % (M : Int) = x)) := by
  have hr := g.rp.rg (N.getD u.1 0, N.getD u.2 0) (List.mem_map.mpr ⟨u, hu, rfl⟩)
  obtain ⟨⟨r1, r2⟩, ⟨r3, r4⟩, r5⟩ := hr
  simp only at r1 r2 r3 r4 r5
  have h1 := em_cases (M := M) (x := y - x) (by omega) (by omega) (by omega)
  have h2 := em_cases (M := M) (x := x - y) (by omega) (by omega) (by omega)
  have hs : stpT N u = absI (N.getD u.1 0 - N.getD u.2 0) := rfl
  have hlo : lowT N u = min (N.getD u.1 0) (N.getD u.2 0) := rfl
  unfold hit at h
  unfold trn
  unfold absI at hs
  generalize stpT N u = s at *
  generalize lowT N u = lo at *
  generalize N.getD u.1 0 = p at *
  generalize N.getD u.2 0 = q at *
  have h3 := em_cases (M := M) (x := x - lo) (by omega) (by omega) (by omega)
  have h4 := em_cases (M := M) (x := y - lo) (by omega) (by omega) (by omega)
  by_cases e : (y - x) % (M : Int) = s
  · rw [if_pos e]
    have h5 := em_cases (M := M) (x := p + (x - lo) % (M : Int)) (by omega) (by omega) (by omega)
    have h6 := em_cases (M := M) (x := q + (x - lo) % (M : Int)) (by omega) (by omega) (by omega)
    generalize (p + (x - lo) % (M : Int)) % (M : Int) = A at *
    generalize (q + (x - lo) % (M : Int)) % (M : Int) = B at *
    generalize (x - lo) % (M : Int) = C at *
    generalize (y - x) % (M : Int) = F at *
    generalize (x - y) % (M : Int) = G at *
    refine ⟨by omega, ?_⟩
    by_cases hpq : p ≤ q
    · left
      have : lo = p := by omega
      split at hs <;> omega
    · right
      have : lo = q := by omega
      split at hs <;> omega
  · rw [if_neg e]
    have h' := h.resolve_left e
    have h5 := em_cases (M := M) (x := p + (y - lo) % (M : Int)) (by omega) (by omega) (by omega)
    have h6 := em_cases (M := M) (x := q + (y - lo) % (M : Int)) (by omega) (by omega) (by omega)
    generalize (p + (y - lo) % (M : Int)) % (M : Int) = A at *
    generalize (q + (y - lo) % (M : Int)) % (M : Int) = B at *
    generalize (y - lo) % (M : Int) = C at *
    generalize (y - x) % (M : Int) = F at *
    generalize (x - y) % (M : Int) = G at *
    refine ⟨by omega, ?_⟩
    by_cases hpq : p ≤ q
    · right
      have : lo = p := by omega
      split at hs <;> omega
    · left
      have : lo = q := by omega
      split at hs <;> omega
end
/-! cut by folds (as in k73) -/
section
variable {n M F c : Nat} {ts : List (Nat × Nat)} {N : List Int} {lo : Int}
theorem part_run (hw : WebOk n ts) (p : Cut n ts N lo) : (MM_parting_of [(webD n ts, .fz), (.tuple (N.map .int), .fz)]).rv = some (.int lo, false) := by
  have hln := p.gr.len
  with_reducible refine rv_gF (in_parting_of ?_)
  repeat' array_mem_dec
  refine for_inv ts tieD (fun pre ρ => (∀ t ∈ pre, ¬ absI (N.getD t.1 0 - N.getD t.2 0) = 1) ∧ ∃ j2 j3, ρ = [some (webD n ts, .fz), some (.tuple (N.map .int), .fz), jk j2, jk j3]) rfl ⟨by simp, none, none, rfl⟩ ?_ ?_
  · rintro pre t post _ hE ⟨hp, j2, j3, rfl⟩
    have ht : t ∈ ts := by rw [hE]; simp
    have hlt := p.gr.lt t ht
    have i1 : opIx (.tuple (N.map .int)) (.int (t.1 : Nat)) = some (.val (.int (N.getD t.1 0))) := ix_ints (by omega)
    have i2 : opIx (.tuple (N.map .int)) (.int (t.2 : Nat)) = some (.val (.int (N.getD t.2 0))) := ix_ints (by omega)
    repeat' array_mem_dec
    refine br_dec (fun q => ?_) fun q => ?_
    · repeat' array_mem_dec
      rw [p.one.2 t ht q]
      exact ⟨rfl, rfl⟩
    · repeat' array_mem_dec
      refine ⟨fun u hu => ?_, some (.int (t.1 : Nat)), some (.int (t.2 : Nat)), rfl⟩
      rcases List.mem_append.mp hu with hu | hu
      · exact hp u hu
      · rw [List.mem_singleton.mp hu]; exact q
  · rintro _ ⟨hp, j2, j3, rfl⟩
    obtain ⟨t, ht, e⟩ := p.one.1
    exact absurd e (hp t ht)
/-- round_copies of a list that is lent -/
theorem roundL_run {A : List Int} {K : Nat} (h1 : 1 ≤ K) (hK : K ≤ 1000) (hA : A.length ≤ 1000) : MM_round_copies [(.list (A.map .int), .lent), (.int (K : Nat), .fz)] = .ok (.list (copiesD A K)) true [some (.list (A.map .int), .lz), some (.int (K : Nat), .fz)] := by
  with_reducible refine ok_gF (in_round_copies ?_)
  repeat' array_mem_dec
  refine TN.cp_rngI (K) (fun k acc ρ => acc = (List.range k).map (fun t => .tuple ((A.map (rotI K t)).map .int)) ∧ ρ = [some (.list (A.map .int), if k = 0 then .lent else .lz), some (.int (K : Nat), .fz), none, none]) (by (first | omega | exact rfl)) (by (first | omega | (simp; done) | (simp; omega))) (by (first | exact rfl | (repeat (first | exact TN.wOk_nil | ((apply TN.wOk_cons); exact rfl; (first | exact TN.okW_none | exact TN.okW_fz | exact TN.okW_jk | assumption)))))) (by (repeat (first | exact wipe_nil | apply wipe_cons | exact st0 | apply stS))) ?_ ?_ ?_
  · exact ⟨rfl, rfl⟩
  · rintro k acc _ hk ⟨rfl, rfl⟩
    have hsn : (List.range k).map (fun t => PyData.tuple ((A.map (rotI K t)).map .int)) ++ [.tuple (A.map fun x => PyData.int (rotI K k x))] = (List.range (k + 1)).map (fun t => .tuple ((A.map (rotI K t)).map .int)) := by
      rw [List.range_succ, List.map_append]
      simp
    by_cases h0 : k = 0
    · rw [if_pos h0]
      repeat' array_mem_dec
      refine TN.cp_map (A) (.int) (fun x => .int (rotI K k x)) rfl (by (first | omega | (simp; done) | (simp; omega))) (by (first | exact rfl | (repeat (first | exact TN.wOk_nil | ((apply TN.wOk_cons); exact rfl; (first | exact TN.okW_none | exact TN.okW_fz | exact TN.okW_jk | assumption)))))) (by (repeat (first | exact wipe_nil | apply wipe_cons | exact st0 | apply stS))) ?_ ?_
      · intro x hx
        repeat' array_mem_dec
        exact ⟨rfl, rfl⟩
      · repeat' array_mem_dec
        exact ⟨hsn, rfl⟩
    · rw [if_neg h0]
      repeat' array_mem_dec
      refine TN.cp_map (A) (.int) (fun x => .int (rotI K k x)) rfl (by (first | omega | (simp; done) | (simp; omega))) (by (first | exact rfl | (repeat (first | exact TN.wOk_nil | ((apply TN.wOk_cons); exact rfl; (first | exact TN.okW_none | exact TN.okW_fz | exact TN.okW_jk | assumption)))))) (by (repeat (first | exact wipe_nil | apply wipe_cons | exact st0 | apply stS))) ?_ ?_
      · intro x hx
        repeat' array_mem_dec
        exact ⟨rfl, rfl⟩
      · repeat' array_mem_dec
        exact ⟨hsn, rfl⟩
  · rintro acc _ ⟨rfl, rfl⟩
    rw [if_neg (by omega)]
    repeat' array_mem_dec
    exact ⟨rfl, rfl, rfl⟩
theorem foldD_succ (N : List Int) (lo : Int) (c M k : Nat) : (foldR N lo c M k).map rowD ++ copiesD (N.map (numF lo c k)) M = (foldR N lo c M (k + 1)).map rowD := by
  rw [fold_succ, List.map_append, List.map_map]; rfl
theorem foldsby_run (hw : WebOk n ts) (p : Cut n ts N lo) (hF : 1 ≤ F) (hl : ts.length * F ≤ 30) (hM : M = 2 * (ts.length * F) + 1) : (M_folds_by [(webD n ts, .fz), (.tuple (N.map .int), .fz), (.int (F : Nat), .fz)]).rv = some (.list ((foldR N lo ts.length M F).map rowD), true) := by
  have hnl := hw.nl
  have hln := p.gr.len
  have ht1 := p.t1
  have h1 := folded_ok hl
  have h2 := part_run hw p
  have hc30 : ts.length ≤ 30 := Nat.le_trans (Nat.le_mul_of_pos_right _ hF) hl
  have hF30 : F ≤ 30 := Nat.le_trans (Nat.le_mul_of_pos_left _ ht1) hl
  have hMi : 2 * (ts.length : Int) * (F : Int) + 1 = (M : Int) := by
    rw [Int.mul_assoc, ← Int.natCast_mul]; omega
  rw [Int.natCast_mul] at h1
  have h3 := fun f => roundL_run (A := N.map (numF lo ts.length f)) (K := M) (by omega) (by omega) (by rw [List.length_map]; omega)
  with_reducible refine rv_gF (in_folds_by ?_)
  repeat' (first | array_mem_dec | ((with_reducible refine TN.c_rv ?_ ?_ h1 ?_); exact rfl; exact rfl) | ((with_reducible refine TN.c_rv ?_ ?_ h2 ?_); exact rfl; exact rfl))
  refine for_rng F (fun k ρ => ∃ j6 s7, okS s7 ∧ ρ = [some (webD n ts, .fz), some (.tuple (N.map .int), .fz), some (.int (F : Nat), .fz), some (.int (ts.length : Nat), .fz), some (.int lo, .fz), some (.list ((foldR N lo ts.length M k).map rowD), .own), jk j6, s7, none]) rfl ⟨none, none, trivial, rfl⟩ ?_ ?_
  · rintro k _ hk ⟨j6, s7, h7, rfl⟩
    have hkc : 0 ≤ (k : Int) * (ts.length : Int) ∧ (k : Int) * (ts.length : Int) ≤ 900 := by
      rw [← Int.natCast_mul]
      have := Nat.mul_le_mul (show k ≤ 30 by omega) hc30
      omega
    have hfl := fold_len N lo ts.length M k
    have hkM : k * M ≤ 30 * 61 := Nat.mul_le_mul (by omega) (by omega)
    have hcl : (copiesD (N.map (numF lo ts.length k)) M).length = M := by simp [copiesD]
    repeat' array_mem_dec
    refine TN.cp_map (N) (.int) (fun x => .int (numF lo ts.length k x)) rfl (by (first | omega | (simp; done) | (simp; omega))) (by (first | exact rfl | (repeat (first | exact TN.wOk_nil | ((apply TN.wOk_cons); exact rfl; (first | exact TN.okW_none | exact TN.okW_fz | exact TN.okW_jk | assumption)))))) (by (repeat (first | exact wipe_nil | apply wipe_cons | exact st0 | apply stS))) ?_ ?_
    · intro x hx
      repeat' array_mem_dec
      exact ⟨rfl, rfl⟩
    · rw [show N.map (fun x => PyData.int (numF lo ts.length k x)) = (N.map (numF lo ts.length k)).map .int by rw [List.map_map]; rfl]
      repeat' array_mem_dec
      rw [hMi]
      refine c_genT (ρ1 := [some (webD n ts, .fz), some (.tuple (N.map .int), .fz), some (.int (F : Nat), .fz), some (.int (ts.length : Nat), .fz), some (.int lo, .fz), some (.list ((foldR N lo ts.length M k).map rowD), .own), some (.int (k : Nat), .fz), some (.list ((N.map (numF lo ts.length k)).map .int), .fz), none]) rfl rfl (h3 k) rfl ?_
      repeat' array_mem_dec
      refine ⟨some (.int (k : Nat)), some (.list ((N.map (numF lo ts.length k)).map .int), .fz), okS_fz, ?_⟩
      rw [← foldD_succ]
      rfl
  · rintro _ ⟨j6, s7, h7, rfl⟩
    repeat' array_mem_dec
    exact ⟨rfl, rfl⟩
theorem rows_lay : ∀ A : List (List Int), PyData.canLayAll0 (A.map rowD) = true ∧ PyData.depthAll (A.map rowD) ≤ 2
  | [] => by simp [PyData.canLayAll0, PyData.depthAll]
  | r :: A => by
    obtain ⟨h1, h2⟩ := rows_lay A
    have h3 := TN.depthAll_ints r
    have e : rowD r = .tuple (r.map .int) := rfl
    rw [List.map_cons, e]
    simp only [PyData.canLayAll0, PyData.canLay0, canLay_ints, PyData.depthAll, PyData.depth, h1, Bool.and_self]
    exact ⟨trivial, by omega⟩
theorem rows_shape (A : List (List Int)) : SeqAt.shaped (.list (A.map rowD)) = true := by
  obtain ⟨h1, h2⟩ := rows_lay A
  unfold SeqAt.shaped
  simp only [PyData.canLay0, h1, PyData.depth, Bool.true_and]
  exact decide_eq_true (by omega)
theorem rows_eqv : ∀ A : List (List Int), PyData.eqvAll (A.map rowD) (A.map rowD) = true
  | [] => by simp [PyData.eqvAll]
  | r :: A => by
    have e : rowD r = .tuple (r.map .int) := rfl
    rw [List.map_cons, PyData.eqvAll, rows_eqv A, e, PyData.eqv, eqvAll_ints]
    simp
theorem rows_ne (A : List (List Int)) : opNe (.list (A.map rowD)) (.list (A.map rowD)) = some (.val (.bool false)) := by
  unfold opNe
  rw [if_pos ⟨rows_shape A, rows_shape A⟩, PyData.eqv, rows_eqv]; rfl
end
end K74
namespace K74
open PySem PySem.Spec PyProof.Rows L2 TN
/-! each two places are tied in their copy -/
def tl (M i j : Nat) : List Int := (List.range M).map fun k => if k < j then (i : Int) else if k < i then (i : Int) - 1 else if k = i then (j : Int) else 0
theorem tl_len (M i j : Nat) : (tl M i j).length = M := by simp [tl]
theorem tl_get {M i j k : Nat} (h : k < M) : (tl M i j).getD k 0 = if k < j then (i : Int) else if k < i then (i : Int) - 1 else if k = i then (j : Int) else 0 := by
  simp [tl, List.getD_eq_getElem?_getD, h]
theorem tl_step {M i j : Nat} (hi : i < M) (hj : j < i) : ((tl M i j).set i ((j : Int) + 1)).set j ((i : Int) - 1 + 1) = tl M i (j + 1) := by
  apply List.ext_getElem
  · simp [tl]
  · intro k h1 h2
    simp only [tl, List.length_map, List.length_range] at h2
    simp only [List.getElem_set, tl, List.getElem_map, List.getElem_range]
    by_cases c1 : j = k
    · subst c1
      rw [if_pos rfl, if_pos (by omega)]; omega
    · rw [if_neg c1]
      by_cases c2 : i = k
      · subst c2
        rw [if_pos rfl, if_neg (by omega), if_neg (by omega), if_pos rfl]; omega
      · rw [if_neg c2]
        (repeat' split) <;> omega
theorem tl_next (M i : Nat) : tl M i i = tl M (i + 1) 0 := by
  unfold tl
  refine List.map_congr_left fun k _ => ?_
  (repeat' split) <;> omega
theorem tl_zero (M : Nat) : tl M 0 0 = List.replicate M 0 := by
  unfold tl
  rw [List.eq_replicate_iff]
  refine ⟨by simp, fun x hx => ?_⟩
  obtain ⟨k, hk, rfl⟩ := List.mem_map.mp hx
  (repeat' split) <;> omega
theorem tl_end (M : Nat) : tl M M 0 = List.replicate M ((M : Int) - 1) := by
  unfold tl
  rw [List.eq_replicate_iff]
  refine ⟨by simp, fun x hx => ?_⟩
  obtain ⟨k, hk, rfl⟩ := List.mem_map.mp hx
  have := List.mem_range.mp hk
  (repeat' split) <;> omega
theorem repI {n : Nat} (x : Int) (h : n ≤ 1000) : opMul (.list [.int x]) (.int (n : Nat)) = some (.tmp (.list ((List.replicate n x).map .int))) := by
  have e : (List.replicate ((n : Int).toNat) [PyData.int x]).flatten = (List.replicate n x).map .int := by
    rw [Int.toNat_natCast, List.map_replicate]
    clear h
    induction n with
    | zero => rfl
    | succ n ih => rw [List.replicate_succ, List.flatten_cons, ih, List.replicate_succ]; rfl
  show (if [PyData.int x].length * (n : Int).toNat ≤ 16777216 ∧ -1000000 ≤ (n : Int) ∧ (n : Int) ≤ 100000000 then _ else _) = _
  rw [if_pos ⟨by simp; omega, by omega, by omega⟩, e]
section
variable {n M : Nat} {ts : List (Nat × Nat)} {N : List Int}
theorem sortle {i j : Nat} (h : j < i) : sortI [(j : Int), (i : Int)] = [(j : Int), (i : Int)] := by
  rw [sortI_iff (by simp; omega)]
theorem each_run (hw : WebOk n ts) (g : Gr n ts N) (hl : ts.length ≤ 30) (hM : M = 2 * ts.length + 1) : (M__law_each_pair [(webD n ts, .fz), (.tuple (N.map .int), .fz), (.list (copiesD N M), .fz)]).rv = some (.bool true, false) := by
  have hMi : 2 * (ts.length : Int) + 1 = (M : Int) := by omega
  have hcl : (copiesD N M).length = M := by simp [copiesD]
  have hcx : ∀ k : Nat, k < M → opIx (.list (copiesD N M)) (.int (k : Nat)) = some (.val (.tuple ((N.map (rotI M k)).map .int))) := fun k hk => by
    rw [ix_lD (by omega)]
    simp [copiesD]
  have hr0 := repI (n := M) 0 (by omega)
  have hr1 := repI (n := M) ((M : Int) - 1) (by omega)
  rw [← tl_zero] at hr0
  have hln := g.len
  have hlt := g.lt
  have hwt := web_ties n ts
  have heq : opEq (.list ((tl M M 0).map .int)) (.list ((List.replicate M ((M : Int) - 1)).map .int)) = some (.val (.bool true)) := by rw [opEq_ints, tl_end]; simp
  generalize copiesD N M = CL at *
  with_reducible refine rv_gF (in__law_each_pair ?_)
  repeat' array_mem_dec
  rw [hMi]
  repeat' (first | (apply gO_of hr0) | array_mem_dec)
  refine for_rng M (fun i ρ => ∃ j5 j6 j7 s8 j9 j10, okS s8 ∧ ρ = [some (webD n ts, .fz), some (.tuple (N.map .int), .fz), some (.list CL, .fz), some (.int (M : Nat), .fz), some (.list ((tl M i 0).map .int), .own), jk j5, jk j6, jk j7, s8, jk j9, jk j10, none]) rfl ⟨none, none, none, none, none, none, trivial, rfl⟩ ?_ ?_
  · rintro i _ hi ⟨j5, j6, j7, s8, j9, j10, o8, rfl⟩
    repeat' array_mem_dec
    refine for_rng i (fun j ρ => ∃ j6 j7 s8 j9 j10, okS s8 ∧ ρ = [some (webD n ts, .fz), some (.tuple (N.map .int), .fz), some (.list CL, .fz), some (.int (M : Nat), .fz), some (.list ((tl M i j).map .int), .own), some (.int (i : Nat), .fz), jk j6, jk j7, s8, jk j9, jk j10, none]) rfl ⟨j6, j7, s8, j9, j10, o8, rfl⟩ ?_ ?_
    · rintro j _ hj ⟨j6, j7, s8, j9, j10, o8, rfl⟩
      have hx : (0 : Int) ≤ (i : Nat) ∧ ((i : Nat) : Int) < M := by omega
      have hy : (0 : Int) ≤ (j : Nat) ∧ ((j : Nat) : Int) < M := by omega
      have hne : ((i : Nat) : Int) ≠ (j : Nat) := by omega
      obtain ⟨pre, u, post, hE, h1, h2⟩ := first_of (hit_ex g hMi hx hy hne)
      have hu : u ∈ ts := by rw [hE]; simp
      have f1 := found_run hw hl g.len hMi hx hy hne hE h1 h2
      obtain ⟨⟨t1, t2⟩, t3⟩ := trn_ends g hu hMi hx hy hne h2
      have hlu := hlt u hu
      have hpl : pre.length < ts.length := by rw [hE]; simp
      obtain ⟨T, hT⟩ : ∃ T : Nat, trn M N i j u = (T : Int) := ⟨(trn M N i j u).toNat, by omega⟩
      rw [hT] at f1 t1 t2 t3
      have hcT := hcx T (by omega)
      have i1 : opIx (.tuple (ts.map tieD)) (.int (pre.length : Nat)) = some (.val (tieD u)) := by
        rw [ix_tD (by rw [List.length_map]; exact hpl)]
        simp only [List.getElem_map]
        congr 3
        rw [List.getElem_of_eq hE]
        simp
      have i2 : seqOf (tieD u) = some ([u.1, u.2].map fun (k : Nat) => PyData.int (k : Nat)) := rfl
      have i3 : seqD (tieD u) = some ([u.1, u.2].map fun (k : Nat) => PyData.int (k : Nat)) := rfl
      have s1 := fSorted_l [rotI M T (N.getD u.1 0), rotI M T (N.getD u.2 0)] (by simp)
      have s2 : sortI [rotI M T (N.getD u.1 0), rotI M T (N.getD u.2 0)] = [(j : Int), (i : Int)] := by
        rw [← sortle hj]
        exact sort2 (t3.symm)
      rw [s2] at s1
      have s3 := opNe_ints [(j : Int), (i : Int)] [(j : Int), (i : Int)]
      rw [decide_eq_true rfl] at s3
      have hlen : (tl M i j).length = M := tl_len M i j
      have g1 : opIx (.list ((tl M i j).map .int)) (.int (i : Nat)) = some (.val (.int (j : Nat))) := by
        rw [ix_intsL (by omega), tl_get hi, if_neg (by omega), if_neg (by omega), if_pos rfl]
      have g2 : putA (.list ((tl M i j).map .int)) (.int (i : Nat)) (.int ((j : Int) + 1)) = some (.list (((tl M i j).set i ((j : Int) + 1)).map .int)) := put_i (by omega) _
      have g3 : opIx (.list (((tl M i j).set i ((j : Int) + 1)).map .int)) (.int (j : Nat)) = some (.val (.int ((i : Int) - 1))) := by
        rw [ix_intsL (by rw [List.length_set]; omega), List.getD_eq_getElem?_getD, List.getElem?_set_ne (by omega), ← List.getD_eq_getElem?_getD, tl_get (by omega), if_neg (by omega), if_pos hj]
      have g4 : putA (.list (((tl M i j).set i ((j : Int) + 1)).map .int)) (.int (j : Nat)) (.int ((i : Int) - 1 + 1)) = some (.list ((tl M i (j + 1)).map .int)) := by
        rw [put_i (by rw [List.length_set]; omega), tl_step hi hj]
      generalize (tl M i j).map PyData.int = TA at *
      generalize ((tl M i j).set i ((j : Int) + 1)).map PyData.int = TB at *
      generalize (tl M i (j + 1)).map PyData.int = TC at *
      repeat' (first | (apply gO_of hwt) | (apply gO_of i1) | (apply gO_of hcT) | array_mem_dec | ((with_reducible refine TN.c_rv ?_ ?_ f1 ?_); exact rfl; exact rfl))
      refine TN.cp_map ([u.1, u.2]) ((fun (k : Nat) => PyData.int (k : Nat))) (fun k => .int (rotI M T (N.getD k 0))) rfl (by (first | omega | (simp; done) | (simp; omega))) (by (first | exact rfl | (repeat (first | exact TN.wOk_nil | ((apply TN.wOk_cons); exact rfl; (first | exact TN.okW_none | exact TN.okW_fz | exact TN.okW_jk | assumption)))))) (by (repeat (first | exact wipe_nil | apply wipe_cons | exact st0 | apply stS))) ?_ ?_
      · intro k hk
        have hk' : k < n := by
          simp only [List.mem_cons, List.not_mem_nil, or_false] at hk
          rcases hk with rfl | rfl <;> omega
        have i4 : opIx (.tuple ((N.map (rotI M T)).map .int)) (.int (k : Nat)) = some (.val (.int (rotI M T (N.getD k 0)))) := by
          rw [ix_ints (by rw [List.length_map]; omega), getD_map (by omega)]
        repeat' (first | (apply gO_of i4) | array_mem_dec)
        exact ⟨rfl, rfl⟩
      · repeat' (first | (apply gO_of s1) | (apply gO_of s3) | (apply gO_of g1) | (apply gO_of g3) | (apply put_rfl g2) | (apply put_rfl g4) | array_mem_dec)
        exact ⟨some (.int (j : Nat)), some (.tuple ((N.map (rotI M T)).map .int)), some (.list ([u.1, u.2].map fun k => PyData.int (rotI M T (N.getD k 0))), .own), some (.int (T : Nat)), some (.int (pre.length : Nat)), okS_own, rfl⟩
    · rintro _ ⟨j6, j7, s8, j9, j10, o8, rfl⟩
      rw [tl_next]
      exact ⟨some (.int (i : Nat)), j6, j7, s8, j9, j10, o8, rfl⟩
  · rintro _ ⟨j5, j6, j7, s8, j9, j10, o8, rfl⟩
    repeat' (first | (apply gO_of hr1) | (apply gO_of heq) | array_mem_dec)
    exact ⟨rfl, rfl⟩
end
end K74
namespace K74
open PySem PySem.Spec PyProof.Rows L2 TN
/-! kinds drawn -/
theorem pick4 {u : Int} (h : 0 ≤ u ∧ u < 4) : ∃ x : Nat, x ≤ 2 ∧ opIx (.list [.int 0, .int 0, .int 1, .int 2]) (.int u) = some (.val (.int (x : Nat))) := by
  have : u = 0 ∨ u = 1 ∨ u = 2 ∨ u = 3 := by omega
  rcases this with rfl | rfl | rfl | rfl
  · exact ⟨0, by omega, rfl⟩
  · exact ⟨0, by omega, rfl⟩
  · exact ⟨1, by omega, rfl⟩
  · exact ⟨2, by omega, rfl⟩
theorem pick6 {u : Int} (h : 0 ≤ u ∧ u < 6) : ∃ x : Nat, (3 ≤ x ∧ x ≤ 12 ∧ kdB (.ring x) = false) ∧ opIx (.list [.int 3, .int 4, .int 7, .int 8, .int 11, .int 12]) (.int u) = some (.val (.int (x : Nat))) := by
  have : u = 0 ∨ u = 1 ∨ u = 2 ∨ u = 3 ∨ u = 4 ∨ u = 5 := by omega
  rcases this with rfl | rfl | rfl | rfl | rfl | rfl
  · exact ⟨3, ⟨by omega, by omega, rfl⟩, rfl⟩
  · exact ⟨4, ⟨by omega, by omega, rfl⟩, rfl⟩
  · exact ⟨7, ⟨by omega, by omega, rfl⟩, rfl⟩
  · exact ⟨8, ⟨by omega, by omega, rfl⟩, rfl⟩
  · exact ⟨11, ⟨by omega, by omega, rfl⟩, rfl⟩
  · exact ⟨12, ⟨by omega, by omega, rfl⟩, rfl⟩
theorem side_ties {a b : Nat} (hb : 1 ≤ b) : (kdT (.sides a b)).length = a * b := by
  have := congrArg List.length (side_flat a b hb a)
  rw [List.length_map, List.length_range] at this
  exact this.symm
theorem spin_ties {L : List Nat} (h : 1 ≤ L.length) : (kdT (.spine L)).length + 1 = L.length + L.sum := by
  have h1 := (perm_spine L).length_eq
  have h2 := tie_len L L.length
  rw [off_end] at h2
  have h3 : (kdT (.spine L)).length = (rowT 0 (L.length - 1) ++ spinT L L.length).length := rfl
  omega
theorem ring_ties {m : Nat} (h : 1 ≤ m) : (kdT (.ring m)).length = m := by
  simp [kdT, rowT]; omega
theorem sides_eq {a b : Nat} {i j : Int} (h1 : i = (a : Nat)) (h2 : j = (b : Nat)) : (.tuple [.str "sides", .int i, .int j] : D) = kdD (.sides a b) := by subst h1 h2; rfl
def Few (k : Kd) : Prop := KdOk k ∧ kdIx k < 3 ∧ kdB k = false ∧ 1 ≤ (kdT k).length ∧ (kdT k).length ≤ 12 ∧ kdN k ≤ 13
theorem few_run (p : Pen) : ∃ (k : Kd) (q : Pen), Few k ∧ M__law_kind_of_few [(p.d, .lent)] = .ok (kdD k) false [some (q.d, .lent)] := by
  have h := ex_gF (r := M__law_kind_of_few [(p.d, .lent)]) (T := fun d fr o => ∃ (k : Kd) (q : Pen), Few k ∧ d = kdD k ∧ fr = false ∧ o = [some (q.d, .lent)]) (in__law_kind_of_few ?_)
  · obtain ⟨d, fr, o, h1, k, q, h2, rfl, rfl, rfl⟩ := h
    exact ⟨k, q, h2, h1⟩
  repeat' array_mem_dec
  intro v p1 hv
  repeat' array_mem_dec
  refine br_dec (fun _ => ?_) fun _ => ?_
  · repeat' array_mem_dec
    intro v2 p2 hv2
    have side : ∀ a b : Nat, 1 ≤ a → 1 ≤ b → a ≤ 3 → b ≤ 12 → a * b ≤ 12 → a + b ≤ 13 → Few (.sides a b) := by
      intro a b h1 h2 h3 h4 h5 h7
      have h6 := Nat.mul_le_mul h1 h2
      unfold Few
      rw [side_ties h2]
      exact ⟨⟨h1, h2, by omega, by omega⟩, by simp [kdIx], rfl, by omega, by omega, h7⟩
    have h3 : v2 = 0 ∨ v2 = 1 ∨ v2 = 2 := by omega
    rcases h3 with rfl | rfl | rfl
    · repeat' array_mem_dec
      intro u p3 hu
      have hu' : u < 12 := by have := hu.2; omega
      have s1 := side 1 (1 + u.toNat) (by omega) (by omega) (by omega) (by omega) (by omega) (by omega)
      repeat' array_mem_dec
      exact ⟨.sides 1 (1 + u.toNat), p3, s1, sides_eq (by omega) (by omega), rfl, rfl⟩
    · repeat' array_mem_dec
      intro u p3 hu
      have hu' : u < 6 := by have := hu.2; omega
      have s1 := side 2 (1 + u.toNat) (by omega) (by omega) (by omega) (by omega) (by omega) (by omega)
      repeat' array_mem_dec
      exact ⟨.sides 2 (1 + u.toNat), p3, s1, sides_eq (by omega) (by omega), rfl, rfl⟩
    · repeat' array_mem_dec
      intro u p3 hu
      have hu' : u < 4 := by have := hu.2; omega
      have s1 := side 3 (1 + u.toNat) (by omega) (by omega) (by omega) (by omega) (by omega) (by omega)
      repeat' array_mem_dec
      exact ⟨.sides 3 (1 + u.toNat), p3, s1, sides_eq (by omega) (by omega), rfl, rfl⟩
  · repeat' array_mem_dec
    refine br_dec (fun _ => ?_) fun _ => ?_
    · repeat' array_mem_dec
      intro u p3 hu
      obtain ⟨x, ⟨hx1, hx2, hx3⟩, hix⟩ := pick6 hu
      repeat' array_mem_dec
      refine ⟨.ring x, p3, ⟨⟨hx1, by omega⟩, by simp [kdIx], hx3, ?_, ?_, Nat.le_trans (show kdN (.ring x) ≤ 12 from hx2) (by omega)⟩, rfl, rfl, rfl⟩
      · rw [ring_ties (by omega)]; omega
      · rw [ring_ties (by omega)]; omega
    · repeat' array_mem_dec
      intro v2 p2 hv2
      repeat' array_mem_dec
      refine TN.cp_rngI ((2 + v2).toNat) (fun k acc ρ => ∃ (L : List Nat) (p : Pen), (∀ x ∈ L, x ≤ 2) ∧ L.length = k ∧ acc = lg L ∧ ρ = [some (p.d, .lent), some (.int v, .fz), none, none, none]) (by (first | omega | exact rfl)) (by (first | omega | (simp; done) | (simp; omega))) (by (first | exact rfl | (repeat (first | exact TN.wOk_nil | ((apply TN.wOk_cons); exact rfl; (first | exact TN.okW_none | exact TN.okW_fz | exact TN.okW_jk | assumption)))))) (by (repeat (first | exact wipe_nil | apply wipe_cons | exact st0 | apply stS))) ?_ ?_ ?_
      · exact ⟨[], p2, by simp, rfl, rfl, rfl⟩
      · rintro k _ _ hk ⟨L, p, hL, hl, rfl, rfl⟩
        repeat' array_mem_dec
        intro u p3 hu
        obtain ⟨x, hx, hix⟩ := pick4 hu
        repeat' array_mem_dec
        refine ⟨L ++ [x], p3, fun y hy => ?_, by simp [hl], lg_snoc L x, rfl⟩
        rcases List.mem_append.mp hy with hy | hy
        · exact hL y hy
        · rw [List.mem_singleton.mp hy]; exact hx
      · rintro _ _ ⟨L, p, hL, hl, rfl, rfl⟩
        have hLs := sum_le_mul (B := 2) L hL
        have hLl : 2 ≤ L.length ∧ L.length ≤ 4 := by omega
        have hts := spin_ties (L := L) (by omega)
        have hkn : kdN (.spine L) = L.length + L.sum := rfl
        repeat' array_mem_dec
        exact ⟨.spine L, p, ⟨⟨by omega, by omega⟩, by simp [kdIx], rfl, by omega, by omega, by omega⟩, rfl, rfl, rfl⟩
end K74
namespace K74
open PySem PySem.Spec PyProof.Rows L2 TN
/-! the law -/
section
variable {n M : Nat} {ts : List (Nat × Nat)} {N : List Int}
theorem allF_drop (A : List (List Int)) (h : (allF ts A).Nodup) : (allF ts (A.drop 1)).Nodup := by
  cases A with
  | nil => simpa using h
  | cons r A =>
    have : allF ts (r :: A) = ts.map (prR r) ++ allF ts A := by simp [allF]
    rw [this] at h
    exact (List.nodup_append.mp h).2.1
theorem fold1 (N : List Int) (lo : Int) (c M : Nat) : foldR N lo c M 1 = cutR N M := by
  rw [fold_succ]
  unfold foldR idxF cutR rowF
  simp only [List.range_zero, List.flatMap_nil, List.map_nil, List.nil_append]
  refine List.map_congr_left fun t _ => ?_
  congr 1
  have : numF lo c 0 = id := by funext x; simp [numF]
  rw [this, List.map_id]
theorem cutr_run (hw : WebOk n ts) (g : Gr n ts N) (hl : ts.length ≤ 30) (hM : M = 2 * ts.length + 1) : (M_cut_good [(webD n ts, .fz), (.int (M : Nat), .fz), (.list (copiesD N M), .lent)]) = .ok (.bool true) false [some (webD n ts, .fz), some (.int (M : Nat), .fz), some (.list (copiesD N M), .lz)] ∧
    (M_cut_good [(webD n ts, .fz), (.int (M : Nat), .fz), (.list (copiesD N M), .fz)]).rv = some (.bool true, false) ∧ (1 ≤ ts.length → (M_cut_good [(webD n ts, .fz), (.int (M : Nat), .fz), (.list (cutL (copiesD N M) (some 1) none), .fz)]).rv = some (.bool false, false)) := by
  have hr := cutR_ok g hM
  have hnd := cutR_nd g hM
  have hcl := cutR_len N M
  have e1 : 2 * ((M * ts.length : Nat) : Int) = (M : Int) * ((M : Int) - 1) := by
    rw [show (M : Int) - 1 = (ts.length : Int) * 2 by omega, ← Int.mul_assoc, Int.natCast_mul]
    omega
  have a1 := cut_lent hw hr hnd (by omega) (by omega) (s := (M : Int)) (by omega)
  have a2 := cut_fz hw hr hnd (by omega) (by omega) (s := (M : Int)) (by omega)
  rw [hcl, decide_eq_true e1] at a1 a2
  rw [copies_eq]
  refine ⟨a1, by rw [a2]; rfl, fun h1 => ?_⟩
  have hc : cutL ((cutR N M).map rowD) (some 1) none = ((cutR N M).drop 1).map rowD := by
    rw [List.map_drop]
    exact cut_from _ 1 (by rw [List.length_map]; omega)
  have a3 := cut_fz (A := (cutR N M).drop 1) hw (fun r hr' => hr r (List.mem_of_mem_drop hr')) (allF_drop _ hnd) (by rw [List.length_drop]; omega) (by omega) (s := (M : Int)) (by omega)
  rw [List.length_drop, hcl] at a3
  have e2 : ¬ 2 * (((M - 1) * ts.length : Nat) : Int) = (M : Int) * ((M : Int) - 1) := by
    rw [← e1]
    have : M * ts.length = (M - 1) * ts.length + ts.length := by
      rw [← Nat.succ_mul]; congr 1; omega
    omega
  rw [decide_eq_false e2] at a3
  rw [hc, a3]; rfl
end
structure Facts (WD ND TD : D) (CL : List D) (M : Nat) : Prop where
  t : opIx WD (.int 1) = some (.val TD)
  l : ∃ c : Nat, fLen [TD] = some (.val (.int (c : Nat))) ∧ M = 2 * c + 1 ∧ c ≤ 12
  cb : (MM_cut_by [(WD, .fz), (ND, .fz)]).rv = some (.list CL, true)
  q1 : M_cut_good [(WD, .fz), (.int (M : Nat), .fz), (.list CL, .lent)] = .ok (.bool true) false [some (WD, .fz), some (.int (M : Nat), .fz), some (.list CL, .lz)]
  q2 : (M_cut_good [(WD, .fz), (.int (M : Nat), .fz), (.list (cutL CL (some 1) none), .fz)]).rv = some (.bool false, false)
  q3 : (M__law_each_pair [(WD, .fz), (ND, .fz), (.list CL, .fz)]).rv = some (.bool true, false)
  gw : ∃ W2 N2 CL2, (MM_grown_above [(WD, .fz), (ND, .fz), (.int 1, .fz)]).rv = some (.tuple [W2, N2], false) ∧ (MM_cut_by [(W2, .fz), (N2, .fz)]).rv = some (.list CL2, true) ∧ (M_cut_good [(W2, .fz), (.int ((M : Int) + 2), .fz), (.list CL2, .fz)]).rv = some (.bool true, false)
theorem facts_of {n : Nat} {ts : List (Nat × Nat)} {N : List Int} (h : WebOk n ts) (g : Gr n ts N) (h1 : 1 ≤ ts.length) (h2 : ts.length ≤ 12) (h3 : n ≤ 13) : Facts (webD n ts) (.tuple (N.map .int)) (.tuple (ts.map tieD)) (copiesD N (2 * ts.length + 1)) (2 * ts.length + 1) := by
  have hl := g.len
  obtain ⟨c1, c2, c3⟩ := cutr_run h g (by omega) rfl
  refine ⟨web_ties n ts, ⟨ts.length, by rw [fLen_t, List.length_map], rfl, h2⟩, cutby_run h (by omega) hl, c1, c3 h1, each_run h g (by omega) rfl, ?_⟩
  have z := gr_zero g
  have hp := idx_lt' z.2
  have g2 := (gr_above g (p := N.idxOf (ts.length : Int)) (by omega) (idx_get' z.2) 1).permT (sortT_perm (grwT ts n (N.idxOf (ts.length : Int)) 1)).symm
  have w2 := grw_ok h (p := N.idxOf (ts.length : Int)) (c := 1) (by omega) (by omega) (by omega)
  have r2 := grownab_run h g (c := 1) (by omega) (by omega)
  have e1 : (sortT (grwT ts n (N.idxOf (ts.length : Int)) 1)).length = ts.length + 1 := by rw [(sortT_perm _).length_eq, grwT_len]
  generalize sortT (grwT ts n (N.idxOf (ts.length : Int)) 1) = us at *
  generalize (N.map (· + ((1 : Nat) : Int)) ++ dwnN 1) = N2 at *
  obtain ⟨_, d2, _⟩ := cutr_run w2 g2 (by omega) rfl
  have e2 : ((2 * us.length + 1 : Nat) : Int) = ((2 * ts.length + 1 : Nat) : Int) + 2 := by omega
  rw [e2] at d2
  exact ⟨_, _, _, r2, cutby_run w2 (by omega) g2.len, d2⟩
theorem folds_of {n : Nat} {ts : List (Nat × Nat)} {N : List Int} {lo : Int} (h : WebOk n ts) (p : Cut n ts N lo) (h2 : ts.length ≤ 12) : ∃ FL, (M_folds_by [(webD n ts, .fz), (.tuple (N.map .int), .fz), (.int 1, .fz)]).rv = some (.list (copiesD N (2 * ts.length + 1)), true) ∧ opNe (.list (copiesD N (2 * ts.length + 1))) (.list (copiesD N (2 * ts.length + 1))) = some (.val (.bool false)) ∧
    (M_folds_by [(webD n ts, .fz), (.tuple (N.map .int), .fz), (.int 2, .fz)]).rv = some (.list FL, true) ∧ (M_cut_good [(webD n ts, .fz), (.int (2 * ((2 * ts.length + 1 : Nat) : Int) - 1), .fz), (.list FL, .fz)]).rv = some (.bool true, false) := by
  have f1 := foldsby_run (F := 1) (M := 2 * ts.length + 1) h p (by omega) (by omega) (by omega)
  rw [fold1, ← copies_eq] at f1
  have f2 := foldsby_run (F := 2) (M := 2 * (ts.length * 2) + 1) h p (by omega) (by omega) rfl
  have hne := rows_ne (cutR N (2 * ts.length + 1))
  rw [← copies_eq] at hne
  refine ⟨_, f1, hne, f2, ?_⟩
  have hfl := fold_len N lo ts.length (2 * (ts.length * 2) + 1) 2
  have hro : ∀ r ∈ foldR N lo ts.length (2 * (ts.length * 2) + 1) 2, RowOk n (2 * ((2 * ts.length + 1 : Nat) : Int) - 1) r := fun r hr => by
    have := foldR_ok p (F := 2) rfl r hr
    rwa [show ((2 * (ts.length * 2) + 1 : Nat) : Int) = 2 * ((2 * ts.length + 1 : Nat) : Int) - 1 by omega] at this
  have a := cut_fz h hro (allF_nd p (F := 2) rfl) (by omega) (by omega) (s := 2 * ((2 * ts.length + 1 : Nat) : Int) - 1) (by omega)
  rw [hfl] at a
  have e1 : 2 * ((2 * (2 * (ts.length * 2) + 1) * ts.length : Nat) : Int) = (2 * ((2 * ts.length + 1 : Nat) : Int) - 1) * (2 * ((2 * ts.length + 1 : Nat) : Int) - 1 - 1) := by
    have x1 : 2 * ((2 * ts.length + 1 : Nat) : Int) - 1 = ((2 * (ts.length * 2) + 1 : Nat) : Int) := by omega
    have x2 : ((2 * (ts.length * 2) + 1 : Nat) : Int) - 1 = ((ts.length * 4 : Nat) : Int) := by omega
    rw [x1, x2, ← Int.natCast_mul]
    have : 2 * (2 * (2 * (ts.length * 2) + 1) * ts.length) = (2 * (ts.length * 2) + 1) * (ts.length * 4) := by
      generalize 2 * (ts.length * 2) + 1 = A
      rw [Nat.mul_assoc 2 A, ← Nat.mul_assoc A ts.length 4]
      generalize A * ts.length = B
      omega
    omega
  rw [decide_eq_true e1] at a
  rw [a]; rfl
theorem isnt_t : opIsNotTr (.bool true) (.bool true) = some (.val (.bool false)) := rfl
theorem isnt_f : opIsNotTr (.bool false) (.bool false) = some (.val (.bool false)) := rfl
theorem law_true : ∀ ns : List Int, ns.length ≤ 63 → ∃ outs, M_law [(.list (ns.map PyData.int), .fz)] = .ok (.bool true) false outs := by
  intro ns hn
  refine FR.rv_ok ?_
  with_reducible refine rv_gF (in_law ?_)
  generalize hsc : (some (.list (ns.map PyData.int), .fz) : Slot) = sc
  repeat' (first | (refine s_for (gE_ok (cells_it 2 (by rw [← hsc]; rfl) hn) ?_)) | array_mem_dec)
  refine for_inv (cellAt ns 0 :: (ns.take 2).drop 1) PyData.int (fun _ ρ => ∃ j1 s2 j3 j4 j5 j6 j7 j8 j9 j10, okS s2 ∧ ρ = [sc, jk j1, s2, jk j3, jk j4, jk j5, jk j6, jk j7, jk j8, jk j9, jk j10]) rfl ⟨none, none, none, none, none, none, none, none, none, none, trivial, rfl⟩ ?_ ?_
  · rintro pre c post _ hE ⟨j1, s2, j3, j4, j5, j6, j7, j8, j9, j10, o2, rfl⟩
    repeat' array_mem_dec
    intro p1
    obtain ⟨k, p2, ⟨hk, h3, hb, hc1, hc2, hkn⟩, hM⟩ := few_run p1
    have hwf := webfor_run hk
    have hst := stepsfor_run hk h3
    have hw0 := kd_word k
    have wok := (kd_web hk).ok
    have g := (num_gr hk h3 hb).permT (sortT_perm (kdT k)).symm
    have hsl := (sortT_perm (kdT k)).length_eq
    rw [← hsl] at hc1 hc2
    have fa := facts_of wok g hc1 hc2 hkn
    have e3 : stpD k = .tuple [.str "numbering", .tuple ((numK k).map .int)] := by unfold stpD; rw [hb]; rfl
    rw [e3] at hst
    unfold kdWeb at hwf
    have hpar : kdP k = true → (MM_parted_for [(kdD k, .fz)]).rv = some (.tuple ((numK k).map .int), false) ∧ ∃ FL, (M_folds_by [(webD (kdN k) (sortT (kdT k)), .fz), (.tuple ((numK k).map .int), .fz), (.int 1, .fz)]).rv = some (.list (copiesD (numK k) (2 * (sortT (kdT k)).length + 1)), true) ∧ opNe (.list (copiesD (numK k) (2 * (sortT (kdT k)).length + 1))) (.list (copiesD (numK k) (2 * (sortT (kdT k)).length + 1))) = some (.val (.bool false)) ∧
    (M_folds_by [(webD (kdN k) (sortT (kdT k)), .fz), (.tuple ((numK k).map .int), .fz), (.int 2, .fz)]).rv = some (.list FL, true) ∧ (M_cut_good [(webD (kdN k) (sortT (kdT k)), .fz), (.int (2 * ((2 * (sortT (kdT k)).length + 1 : Nat) : Int) - 1), .fz), (.list FL, .fz)]).rv = some (.bool true, false) := fun hp => by
      have hne : kdT k ≠ [] := fun z => by rw [hsl, z] at hc1; simp at hc1
      obtain ⟨lo, hcut⟩ := kd_cut hk hp hne
      have P : Cut (kdN k) (sortT (kdT k)) (numK k) lo := ⟨g, hc1, fun t ht => hcut t ((sortT_perm (kdT k)).mem_iff.mp ht)⟩
      exact ⟨parted_run2 hk hp hne, folds_of wok P hc2⟩
    have hnr : (kdP k = true ∧ opNe (.str (kdW k)) (.str "ring") = some (.val (.bool true))) ∨ opNe (.str (kdW k)) (.str "ring") = some (.val (.bool false)) := by
      cases k with
      | ring m => exact .inr (by kernel_rfl)
      | spine L => exact .inl ⟨rfl, by kernel_rfl⟩
      | sides a b => exact .inl ⟨rfl, by kernel_rfl⟩
      | full m => simp [kdIx] at h3
      | wheel m => simp [kdIx] at h3
      | fan m => simp [kdIx] at h3
    generalize copiesD (numK k) (2 * (sortT (kdT k)).length + 1) = CL at *
    generalize (2 * (sortT (kdT k)).length + 1 : Nat) = M at *
    generalize webD _ _ = WD at *
    generalize PyData.tuple ((numK k).map .int) = ND at *
    generalize PyData.tuple ((sortT (kdT k)).map tieD) = TD at *
    generalize kdP k = kp at *
    generalize kdD k = KD at *
    generalize kdW k = KW at *
    obtain ⟨i1, ⟨cc, i2, hMc, hcc⟩, cb, q1, q2, q3, W2, N2, CL2, r1, r2, r3⟩ := fa
    have hMi : 2 * (cc : Int) + 1 = (M : Int) := by omega
    repeat' (first | (refine c_gen (ρ1 := [sc, some (.int c, .fz), some (p2.d, .own), jk j3, jk j4, jk j5, jk j6, jk j7, jk j8, jk j9, jk j10]) rfl rfl hM (by rw [← hsc]; cases j7 <;> cases j3 <;> cases j4 <;> cases j5 <;> cases j6 <;> cases j8 <;> cases j9 <;> cases j10 <;> rfl) ?_) | (apply gO_of i1) | (apply gO_of i2) | array_mem_dec | ((with_reducible refine TN.c_rv ?_ ?_ hwf ?_); exact rfl; exact rfl) | ((with_reducible refine TN.c_rv ?_ ?_ hst ?_); exact rfl; exact rfl) | ((with_reducible refine TN.c_rvT ?_ ?_ cb ?_); exact rfl; exact rfl))
    rw [hMi]
    refine c_gen (ρ1 := [sc, some (.int c, .fz), some (p2.d, .own), some (KD, .fz), some (WD, .fz), some (ND, .fz), some (.int (M : Nat), .fz), some (.list CL, .fz), jk j8, jk j9, jk j10]) rfl rfl q1 (by rw [← hsc]; cases j8 <;> cases j9 <;> cases j10 <;> rfl) ?_
    rcases hnr with ⟨rfl, hnr⟩ | hnr
    · obtain ⟨k1, FL, k2, k3, k4, k5⟩ := hpar rfl
      repeat' (first | (apply gO_of isnt_t) | (apply gO_of isnt_f) | (apply gO_of hw0) | (apply gO_of hnr) | (apply gO_of k3) | array_mem_dec | ((with_reducible refine TN.c_rv ?_ ?_ q2 ?_); exact rfl; exact rfl) | ((with_reducible refine TN.c_rv ?_ ?_ q3 ?_); exact rfl; exact rfl) | ((with_reducible refine TN.c_rv ?_ ?_ r1 ?_); exact rfl; exact rfl) | ((with_reducible refine TN.c_rvT ?_ ?_ r2 ?_); exact rfl; exact rfl) | ((with_reducible refine TN.c_rv ?_ ?_ r3 ?_); exact rfl; exact rfl) | ((with_reducible refine TN.c_rv ?_ ?_ k1 ?_); exact rfl; exact rfl) | ((with_reducible refine TN.c_rvT ?_ ?_ k2 ?_); exact rfl; exact rfl) | ((with_reducible refine TN.c_rvT ?_ ?_ cb ?_); exact rfl; exact rfl) | ((with_reducible refine TN.c_rvT ?_ ?_ k4 ?_); exact rfl; exact rfl) | ((with_reducible refine TN.c_rv ?_ ?_ k5 ?_); exact rfl; exact rfl))
      exact ⟨some (.int c), some (p2.d, .own), some KD, some WD, some ND, some (.int (M : Nat)), some (.list CL), some W2, some N2, some ND, okS_own, rfl⟩
    · repeat' (first | (apply gO_of isnt_t) | (apply gO_of isnt_f) | (apply gO_of hw0) | (apply gO_of hnr) | array_mem_dec | ((with_reducible refine TN.c_rv ?_ ?_ q2 ?_); exact rfl; exact rfl) | ((with_reducible refine TN.c_rv ?_ ?_ q3 ?_); exact rfl; exact rfl) | ((with_reducible refine TN.c_rv ?_ ?_ r1 ?_); exact rfl; exact rfl) | ((with_reducible refine TN.c_rvT ?_ ?_ r2 ?_); exact rfl; exact rfl) | ((with_reducible refine TN.c_rv ?_ ?_ r3 ?_); exact rfl; exact rfl))
      exact ⟨some (.int c), some (p2.d, .own), some KD, some WD, some ND, some (.int (M : Nat)), some (.list CL), some W2, some N2, j10, okS_own, rfl⟩
  · rintro _ ⟨j1, s2, j3, j4, j5, j6, j7, j8, j9, j10, o2, rfl⟩
    repeat' array_mem_dec
    exact ⟨rfl, rfl⟩
end K74
namespace K74
open PySem PySem.Spec PyProof.Rows L2 TN
theorem sc_I_TooGreat : FnScope ["self", "many", "most"] ["self", "many", "most"] (defScope s_I_TooGreat) := ⟨rfl, rfl, rfl, by decide +kernel, rfl, by decide +kernel, by decide +kernel⟩
theorem ra_TooGreat {P : Program} {w : World} {K : PySem.W.Frag} {mg : Str → Option Value} {base : Heap} {fd : FuncData} (F : FunD K "__init__" "TooGreat.__init__" (defArgs s_I_TooGreat) (defBody s_I_TooGreat) (defScope s_I_TooGreat) [] [] (iniA K "TooGreat") fd) (O : oxAll RS K = true) (hm : mg "TooGreat" = some (.ref (He.ga K "TooGreat"))) :
    RaiseA P w K mg base 1 "TooGreat" ["many", "most"] :=
  raise2 F sc_I_TooGreat (ox_of O (by decide)) hm (fun _ _ _ _ _ _ us hl => match us, hl with | [_, _, _], _ => rfl) rfl fun cdv A outer s H E => ⟨⟨pe_var rfl (.inl rfl), pe_var rfl (.inl rfl), rfl⟩, ⟨pe_var rfl (.inl rfl), pe_var rfl (.inl rfl), rfl⟩⟩
theorem sc_I_NoWeb : FnScope ["self", "number"] ["self", "number"] (defScope s_I_NoWeb) := ⟨rfl, rfl, rfl, by decide +kernel, rfl, by decide +kernel, by decide +kernel⟩
theorem ra_NoWeb {P : Program} {w : World} {K : PySem.W.Frag} {mg : Str → Option Value} {base : Heap} {fd : FuncData} (F : FunD K "__init__" "NoWeb.__init__" (defArgs s_I_NoWeb) (defBody s_I_NoWeb) (defScope s_I_NoWeb) [] [] (iniA K "NoWeb") fd) (O : oxAll RS K = true) (hm : mg "NoWeb" = some (.ref (He.ga K "NoWeb"))) :
    RaiseA P w K mg base 1 "NoWeb" ["number"] :=
  raise1 F sc_I_NoWeb (ox_of O (by decide)) hm (fun _ _ _ _ _ _ us hl => match us, hl with | [_, _], _ => rfl) rfl fun cdv A outer s H E => ⟨pe_var rfl (.inl rfl), pe_var rfl (.inl rfl), rfl⟩
theorem sc__law_cell_at : FnScope ["script", "k"] ["script", "k"] (defScope s__law_cell_at) := ⟨rfl, rfl, rfl, by decide +kernel, rfl, by decide +kernel, by decide +kernel⟩
theorem ok__law_cell_at {P : Program} {w : World} {K : PySem.W.Frag} {mg : Str → Option Value} {base : Heap} {f : Addr} {fd : FuncData} (F : FunD K "_law_cell_at" "_law_cell_at" (defArgs s__law_cell_at) (defBody s__law_cell_at) (defScope s__law_cell_at) [] [] f fd) (hm : mg "_law_cell_at" = some (.ref f)) (h_len : mg "len" = none) :
    Callee P w K mg base 1 "_law_cell_at" 2 M__law_cell_at :=
  calleeOf F sc__law_cell_at hm (fun _ _ _ _ _ _ us hl => match us, hl with | [_, _], _ => rfl) fun cdv A outer s H E hr =>
  (ss_cons (ss_if (st_cmp op_lt (ltG_ok _ _) (sx_var 1) (sx_callB cr_lenA (len_ok _) rfl h_len boot_len (sa_cons (sx_var 0) sa_nil)))
  (ss_one (ss_ret (sx_item (u65 hr) (sx_var 0) (sx_var 1))))
  ss_nil)
  (ss_one (ss_ret sx_int)))
theorem sc__law_pen_of : FnScope ["cell", "left"] ["cell"] (defScope s__law_pen_of) := ⟨rfl, rfl, rfl, by decide +kernel, rfl, by decide +kernel, by decide +kernel⟩
theorem ok__law_pen_of {P : Program} {w : World} {K : PySem.W.Frag} {mg : Str → Option Value} {base : Heap} {f : Addr} {fd : FuncData} (F : FunD K "_law_pen_of" "_law_pen_of" (defArgs s__law_pen_of) (defBody s__law_pen_of) (defScope s__law_pen_of) [] [] f fd) (hm : mg "_law_pen_of" = some (.ref f)) (h_max : mg "max" = none) (h_int : mg "int" = none) :
    Callee P w K mg base 1 "_law_pen_of" 1 M__law_pen_of :=
  calleeOf F sc__law_pen_of hm (fun _ _ _ _ _ _ us hl => match us, hl with | [_], _ => rfl) fun cdv A outer s H E hr =>
  (ss_cons (ss_set 1 sc__law_pen_of.nd (sx_callB (call_max2 rfl) (max2_ok _) rfl h_max boot_max (sa_cons (sx_var 0) (sa_cons (sx_bin op_sub (sub_ok _) sx_int (sx_var 0)) sa_nil))))
  (ss_one (ss_ret (sx_lst (sa_cons (sx_var 1) (sa_cons (sx_callTy call_int1 (int_ok _) rfl h_int boot_int (sa_cons (sx_cmp op_ge (ltG_ok _ _) (sx_var 1) (sx_bin op_pow (pow_ok _) sx_int sx_int)) sa_nil)) (sa_cons (sx_bin op_mod (mod_ok _) (sx_var 1) sx_int) sa_nil)))))))
theorem sc__law_next : FnScope ["seed"] ["seed"] (defScope s__law_next) := ⟨rfl, rfl, rfl, by decide +kernel, rfl, by decide +kernel, by decide +kernel⟩
theorem ok__law_next {P : Program} {w : World} {K : PySem.W.Frag} {mg : Str → Option Value} {base : Heap} {f : Addr} {fd : FuncData} (F : FunD K "_law_next" "_law_next" (defArgs s__law_next) (defBody s__law_next) (defScope s__law_next) [] [] f fd) (hm : mg "_law_next" = some (.ref f)) :
    Callee P w K mg base 1 "_law_next" 1 M__law_next :=
  calleeOf F sc__law_next hm (fun _ _ _ _ _ _ us hl => match us, hl with | [_], _ => rfl) fun cdv A outer s H E hr =>
  (ss_cons (ss_set 0 sc__law_next.nd (sx_bin op_mod (mod_ok _) (sx_bin op_addA (add_ok _) (sx_var 0) sx_int) sx_int))
  (ss_one (ss_ret (sx_bin op_mod (mod_ok _) (sx_bin op_addA (add_ok _) (sx_bin op_addA (add_ok _) (sx_bin op_mulA (mul_ok _) (sx_var 0) (sx_var 0)) (sx_bin op_mulA (mul_ok _) sx_int (sx_var 0))) sx_int) sx_int))))
theorem sc__law_draw : FnScope ["pen", "many", "found"] ["pen", "many"] (defScope s__law_draw) := ⟨rfl, rfl, rfl, by decide +kernel, rfl, by decide +kernel, by decide +kernel⟩
theorem ok__law_draw {P : Program} {w : World} {K : PySem.W.Frag} {mg : Str → Option Value} {base : Heap} {f : Addr} {fd : FuncData} (F : FunD K "_law_draw" "_law_draw" (defArgs s__law_draw) (defBody s__law_draw) (defScope s__law_draw) [] [] f fd) (hm : mg "_law_draw" = some (.ref f)) (C__law_next : Callee P w K mg base 1 "_law_next" 1 M__law_next) :
    Callee P w K mg base 2 "_law_draw" 2 M__law_draw :=
  calleeOf F sc__law_draw hm (fun _ _ _ _ _ _ us hl => match us, hl with | [_, _], _ => rfl) fun cdv A outer s H E hr =>
  (ss_cons (ss_if (st_cmp (op_eqD (u64 hr)) (eq_ok _) (sx_item (u65 hr) (sx_var 0) sx_int) sx_int)
  (ss_cons (ss_set 2 sc__law_draw.nd (sx_bin op_mod (mod_ok _) (sx_item (u65 hr) (sx_var 0) sx_int) (sx_var 1)))
  (ss_cons (ss_unp (sx_bin op_fdivW (div_ok _) (sx_item (u65 hr) (sx_var 0) sx_int) (sx_var 1)) (sg_put 0 (set_any (u65 hr)) (putA_ok _) sx_int))
  (ss_one (ss_ret (sx_var 2)))))
  ss_nil)
  (ss_cons (ss_unp (sx_callC C__law_next hr rfl (lenA_cons lenA_nil) (sa_cons (sx_bin op_addA (add_ok _) (sx_callC C__law_next hr rfl (lenA_cons lenA_nil) (sa_cons (sx_item (u65 hr) (sx_var 0) sx_int) sa_nil)) sx_int) sa_nil)) (sg_put 0 (set_any (u65 hr)) (putA_ok _) sx_int))
  (ss_one (ss_ret (sx_bin op_mod (mod_ok _) (sx_bin op_fdivW (div_ok _) (sx_item (u65 hr) (sx_var 0) sx_int) sx_int) (sx_var 1))))))
theorem sc__law_kind_of_few : FnScope ["pen", "way", "legs", "one", "k"] ["pen"] (defScope s__law_kind_of_few) := ⟨rfl, rfl, rfl, by decide +kernel, rfl, by decide +kernel, by decide +kernel⟩
theorem ok__law_kind_of_few {P : Program} {w : World} {K : PySem.W.Frag} {mg : Str → Option Value} {base : Heap} {f : Addr} {fd : FuncData} (F : FunD K "_law_kind_of_few" "_law_kind_of_few" (defArgs s__law_kind_of_few) (defBody s__law_kind_of_few) (defScope s__law_kind_of_few) [] [] f fd) (hm : mg "_law_kind_of_few" = some (.ref f)) (h_range : mg "range" = none) (h_tuple : mg "tuple" = none) (C__law_draw : Callee P w K mg base 2 "_law_draw" 2 M__law_draw) :
    Callee P w K mg base 3 "_law_kind_of_few" 1 M__law_kind_of_few :=
  calleeOf F sc__law_kind_of_few hm (fun _ _ _ _ _ _ us hl => match us, hl with | [_], _ => rfl) fun cdv A outer s H E hr =>
  (ss_cons (ss_set 1 sc__law_kind_of_few.nd (sx_callC C__law_draw hr rfl (lenA_cons (lenA_cons lenA_nil)) (sa_cons (sx_var 0) (sa_cons sx_int sa_nil))))
  (ss_cons (ss_if (st_cmp (op_eqD (u64 hr)) (eq_ok _) (sx_var 1) sx_int)
  (ss_cons (ss_set 3 sc__law_kind_of_few.nd (sx_bin op_addA (add_ok _) sx_int (sx_callC C__law_draw hr rfl (lenA_cons (lenA_cons lenA_nil)) (sa_cons (sx_var 0) (sa_cons sx_int sa_nil)))))
  (ss_one (ss_ret (sx_tup (sa_cons sx_str (sa_cons (sx_var 3) (sa_cons (sx_bin op_addA (add_ok _) sx_int (sx_callC C__law_draw hr rfl (lenA_cons (lenA_cons lenA_nil)) (sa_cons (sx_var 0) (sa_cons (sx_bin op_fdivW (div_ok _) sx_int (sx_var 3)) sa_nil)))) sa_nil)))))))
  ss_nil)
  (ss_cons (ss_if (st_cmp (op_eqD (u64 hr)) (eq_ok _) (sx_var 1) sx_int)
  (ss_one (ss_ret (sx_tup (sa_cons sx_str (sa_cons (sx_item (u65 hr) (sx_lst (sa_cons sx_int (sa_cons sx_int (sa_cons sx_int (sa_cons sx_int (sa_cons sx_int (sa_cons sx_int sa_nil))))))) (sx_callC C__law_draw hr rfl (lenA_cons (lenA_cons lenA_nil)) (sa_cons (sx_var 0) (sa_cons sx_int sa_nil)))) sa_nil)))))
  ss_nil)
  (ss_cons (ss_setComp 2 rfl sc__law_kind_of_few.nd (si_rng1 rfl h_range (sx_bin op_addA (add_ok _) sx_int (sx_callC C__law_draw hr rfl (lenA_cons (lenA_cons lenA_nil)) (sa_cons (sx_var 0) (sa_cons sx_int sa_nil))))) (own := [("k", 4)]) (blkB_ok (by kernel_rfl)) (by decide) (fun s H C cl fp => (sg_name 4 sc__law_kind_of_few.nd)) (fun s H C cl fp => spt_nil) (fun s H C cl fp => (sx_item (u65 hr) (sx_lst (sa_cons sx_int (sa_cons sx_int (sa_cons sx_int (sa_cons sx_int sa_nil))))) (sx_callC C__law_draw hr rfl (lenA_cons (lenA_cons lenA_nil)) (sa_cons (sx_var 0) (sa_cons sx_int sa_nil))))))
  (ss_one (ss_ret (sx_tup (sa_cons sx_str (sa_cons (sx_callTy cr_tupK (tuple_ok _) rfl h_tuple boot_tuple (sa_cons (sx_var 2) sa_nil)) sa_nil)))))))))
theorem sc_is_whole : FnScope ["thing"] ["thing"] (defScope s_is_whole) := ⟨rfl, rfl, rfl, by decide +kernel, rfl, by decide +kernel, by decide +kernel⟩
theorem ok_is_whole {P : Program} {w : World} {K : PySem.W.Frag} {mg : Str → Option Value} {base : Heap} {f : Addr} {fd : FuncData} (F : FunD K "is_whole" "is_whole" (defArgs s_is_whole) (defBody s_is_whole) (defScope s_is_whole) [] [] f fd) (hm : mg "is_whole" = some (.ref f)) (h_isinstance : mg "isinstance" = none) (h_int : mg "int" = none) (h_bool : mg "bool" = none) :
    Callee P w K mg base 1 "is_whole" 1 M_is_whole :=
  calleeOf F sc_is_whole hm (fun _ _ _ _ _ _ us hl => match us, hl with | [_], _ => rfl) fun cdv A outer s H E hr =>
  (ss_one (ss_ret (sx_and (sx_isi rfl h_isinstance rfl h_int boot_int (sx_var 0)) (sx_one (sx_not (sx_isi rfl h_isinstance rfl h_bool boot_bool (sx_var 0)))))))
theorem sc_legs_good : FnScope ["thing", "count"] ["thing"] (defScope s_legs_good) := ⟨rfl, rfl, rfl, by decide +kernel, rfl, by decide +kernel, by decide +kernel⟩
theorem ok_legs_good {P : Program} {w : World} {K : PySem.W.Frag} {mg : Str → Option Value} {base : Heap} {f : Addr} {fd : FuncData} (F : FunD K "legs_good" "legs_good" (defArgs s_legs_good) (defBody s_legs_good) (defScope s_legs_good) [] [] f fd) (hm : mg "legs_good" = some (.ref f)) (h_isinstance : mg "isinstance" = none) (h_tuple : mg "tuple" = none) (h_len : mg "len" = none) (i_MOST_PLACES : ∃ t, mg "MOST_PLACES" = some (.int (40) t)) (h_all : mg "all" = none) (h_sum : mg "sum" = none) (C_is_whole : Callee P w K mg base 1 "is_whole" 1 M_is_whole) :
    Callee P w K mg base 2 "legs_good" 1 M_legs_good :=
  calleeOf F sc_legs_good hm (fun _ _ _ _ _ _ us hl => match us, hl with | [_], _ => rfl) fun cdv A outer s H E hr =>
  (ss_cons (ss_if (st_w (sw_or (st_not (st_val (sx_isi rfl h_isinstance rfl h_tuple boot_tuple (sx_var 0)))) (sw_or (st_cmp op_lt (ltG_ok _ _) (sx_callB cr_lenA (len_ok _) rfl h_len boot_len (sa_cons (sx_var 0) sa_nil)) sx_int) (sw_or1 (st_cmp op_gt (ltG_ok _ _) (sx_callB cr_lenA (len_ok _) rfl h_len boot_len (sa_cons (sx_var 0) sa_nil)) (sx_gint rfl i_MOST_PLACES))))))
  (ss_one (ss_ret sx_bl))
  ss_nil)
  (ss_cons (ss_if (st_not (st_val (sx_callB (cr_all rfl) (all_ok _) rfl h_all boot_all (sa_cons (sx_comp rfl sc_legs_good.nd (si_seq (sx_var 0)) (own := [("count", 1)]) (blkB_ok (by kernel_rfl)) (by decide) (fun s H C cl fp => (sg_name 1 sc_legs_good.nd)) (fun s H C cl fp => spt_nil) (fun s H C cl fp => (sx_and (sx_callC C_is_whole hr rfl (lenA_cons lenA_nil) (sa_cons (sx_var 1) sa_nil)) (sx_one (sx_chain op_le (ltG_ok _ _) op_le (ltG_ok _ _) sx_int (sx_var 1) (sx_gint rfl i_MOST_PLACES)))))) sa_nil))))
  (ss_one (ss_ret sx_bl))
  ss_nil)
  (ss_one (ss_ret (sx_cmp op_le (ltG_ok _ _) (sx_bin op_addA (add_ok _) (sx_callB cr_lenA (len_ok _) rfl h_len boot_len (sa_cons (sx_var 0) sa_nil)) (sx_callB (cr_sumA rfl) (sum_ok _) rfl h_sum boot_sum (sa_cons (sx_var 0) sa_nil))) (sx_gint rfl i_MOST_PLACES))))))
theorem sc_kind_form : FnScope ["thing", "size"] ["thing"] (defScope s_kind_form) := ⟨rfl, rfl, rfl, by decide +kernel, rfl, by decide +kernel, by decide +kernel⟩
theorem ok_kind_form {P : Program} {w : World} {K : PySem.W.Frag} {mg : Str → Option Value} {base : Heap} {f : Addr} {fd : FuncData} (F : FunD K "kind_form" "kind_form" (defArgs s_kind_form) (defBody s_kind_form) (defScope s_kind_form) [] [] f fd) (hm : mg "kind_form" = some (.ref f)) (h_isinstance : mg "isinstance" = none) (h_tuple : mg "tuple" = none) (h_len : mg "len" = none) (h_str : mg "str" = none) (i_MOST_PLACES : ∃ t, mg "MOST_PLACES" = some (.int (40) t)) (h_all : mg "all" = none) (k_LEAST : KC K w mg "LEAST" [("ring", 3), ("full", 1), ("wheel", 3), ("fan", 1)]) (C_legs_good : Callee P w K mg base 2 "legs_good" 1 M_legs_good) (C_is_whole : Callee P w K mg base 2 "is_whole" 1 M_is_whole) :
    Callee P w K mg base 3 "kind_form" 1 M_kind_form :=
  calleeOf F sc_kind_form hm (fun _ _ _ _ _ _ us hl => match us, hl with | [_], _ => rfl) fun cdv A outer s H E hr =>
  (ss_cons (ss_if (st_w (sw_or (st_not (st_val (sx_isi rfl h_isinstance rfl h_tuple boot_tuple (sx_var 0)))) (sw_or (st_cmp op_lt (ltG_ok _ _) (sx_callB cr_lenA (len_ok _) rfl h_len boot_len (sa_cons (sx_var 0) sa_nil)) sx_int) (sw_or1 (st_not (st_val (sx_isi rfl h_isinstance rfl h_str boot_str (sx_item (u65 hr) (sx_var 0) sx_int))))))))
  (ss_one (ss_ret sx_bl))
  ss_nil)
  (ss_cons (ss_if (st_cmp (op_eqD (u64 hr)) (eq_ok _) (sx_item (u65 hr) (sx_var 0) sx_int) sx_str)
  (ss_one (ss_ret (sx_and (sx_cmp (op_eqD (u64 hr)) (eq_ok _) (sx_callB cr_lenA (len_ok _) rfl h_len boot_len (sa_cons (sx_var 0) sa_nil)) sx_int) (sx_one (sx_callC C_legs_good hr rfl (lenA_cons lenA_nil) (sa_cons (sx_item (u65 hr) (sx_var 0) sx_int) sa_nil))))))
  ss_nil)
  (ss_cons (ss_if (st_not (st_val (sx_callB (cr_all rfl) (all_ok _) rfl h_all boot_all (sa_cons (sx_comp rfl sc_kind_form.nd (si_seq (sx_slice (sx_var 0) (so_some sx_int) so_none)) (own := [("size", 1)]) (blkB_ok (by kernel_rfl)) (by decide) (fun s H C cl fp => (sg_name 1 sc_kind_form.nd)) (fun s H C cl fp => spt_nil) (fun s H C cl fp => (sx_and (sx_callC C_is_whole hr rfl (lenA_cons lenA_nil) (sa_cons (sx_var 1) sa_nil)) (sx_one (sx_chain op_le (ltG_ok _ _) op_le (ltG_ok _ _) sx_int (sx_var 1) (sx_gint rfl i_MOST_PLACES)))))) sa_nil))))
  (ss_one (ss_ret sx_bl))
  ss_nil)
  (ss_cons (ss_if (st_cmp (op_eqD (u64 hr)) (eq_ok _) (sx_item (u65 hr) (sx_var 0) sx_int) sx_str)
  (ss_one (ss_ret (sx_cmp (op_eqD (u64 hr)) (eq_ok _) (sx_callB cr_lenA (len_ok _) rfl h_len boot_len (sa_cons (sx_var 0) sa_nil)) sx_int)))
  ss_nil)
  (ss_one (ss_ret (sx_and (sx_inC k_LEAST rfl (sx_item (u65 hr) (sx_var 0) sx_int)) (sx_and (sx_cmp (op_eqD (u64 hr)) (eq_ok _) (sx_callB cr_lenA (len_ok _) rfl h_len boot_len (sa_cons (sx_var 0) sa_nil)) sx_int) (sx_one (sx_cmp op_ge (ltG_ok _ _) (sx_item (u65 hr) (sx_var 0) sx_int) (sx_ixC k_LEAST rfl (sx_item (u65 hr) (sx_var 0) sx_int))))))))))))
theorem sc_spine_ties : FnScope ["legs", "many", "ties", "place", "count", "number"] ["legs"] (defScope s_spine_ties) := ⟨rfl, rfl, rfl, by decide +kernel, rfl, by decide +kernel, by decide +kernel⟩
theorem ok_spine_ties {P : Program} {w : World} {K : PySem.W.Frag} {mg : Str → Option Value} {base : Heap} {f : Addr} {fd : FuncData} (F : FunD K "spine_ties" "spine_ties" (defArgs s_spine_ties) (defBody s_spine_ties) (defScope s_spine_ties) [] [] f fd) (hm : mg "spine_ties" = some (.ref f)) (h_len : mg "len" = none) (h_range : mg "range" = none) (h_enumerate : mg "enumerate" = none) :
    Callee P w K mg base 1 "spine_ties" 1 M_spine_ties :=
  calleeOf F sc_spine_ties hm (fun _ _ _ _ _ _ us hl => match us, hl with | [_], _ => rfl) fun cdv A outer s H E hr =>
  (ss_cons (ss_set 1 sc_spine_ties.nd (sx_callB cr_lenA (len_ok _) rfl h_len boot_len (sa_cons (sx_var 0) sa_nil)))
  (ss_cons (ss_setComp 2 rfl sc_spine_ties.nd (si_rng1 rfl h_range (sx_bin op_sub (sub_ok _) (sx_var 1) sx_int)) (own := [("place", 3)]) (blkB_ok (by kernel_rfl)) (by decide) (fun s H C cl fp => (sg_name 3 sc_spine_ties.nd)) (fun s H C cl fp => spt_nil) (fun s H C cl fp => (sx_tup (sa_cons (sx_var 3) (sa_cons (sx_bin op_addA (add_ok _) (sx_var 3) sx_int) sa_nil)))))
  (ss_cons (ss_for rfl (si_enum rfl h_enumerate (sx_var 0)) (sg_tup rfl (sgs_cons (sg_name 3 sc_spine_ties.nd) (sgs_cons (sg_name 4 sc_spine_ties.nd) sgs_nil)))
  (ss_cons (ss_expr (sx_mutL 2 PySem.F.plainAttrs_list PySem.F.slot_list_extend rfl mt_extendA (extend_ok _) (sa_cons (sx_comp rfl sc_spine_ties.nd (si_rng1 rfl h_range (sx_var 4)) (own := [("number", 5)]) (blkB_ok (by kernel_rfl)) (by decide) (fun s H C cl fp => (sg_name 5 sc_spine_ties.nd)) (fun s H C cl fp => spt_nil) (fun s H C cl fp => (sx_tup (sa_cons (sx_var 3) (sa_cons (sx_bin op_addA (add_ok _) (sx_var 1) (sx_var 5)) sa_nil))))) sa_nil)))
  (ss_one (ss_set 1 sc_spine_ties.nd (sx_bin op_addA (add_ok _) (sx_var 1) (sx_var 4))))))
  (ss_one (ss_ret (sx_tup (sa_cons (sx_var 1) (sa_cons (sx_var 2) sa_nil))))))))
theorem sc_row_ties : FnScope ["first", "last", "place"] ["first", "last"] (defScope s_row_ties) := ⟨rfl, rfl, rfl, by decide +kernel, rfl, by decide +kernel, by decide +kernel⟩
theorem ok_row_ties {P : Program} {w : World} {K : PySem.W.Frag} {mg : Str → Option Value} {base : Heap} {f : Addr} {fd : FuncData} (F : FunD K "row_ties" "row_ties" (defArgs s_row_ties) (defBody s_row_ties) (defScope s_row_ties) [] [] f fd) (hm : mg "row_ties" = some (.ref f)) (h_range : mg "range" = none) :
    Callee P w K mg base 1 "row_ties" 2 M_row_ties :=
  calleeOf F sc_row_ties hm (fun _ _ _ _ _ _ us hl => match us, hl with | [_, _], _ => rfl) fun cdv A outer s H E hr =>
  (ss_one (ss_ret (sx_comp rfl sc_row_ties.nd (si_rng2 rfl h_range (sx_var 0) (sx_var 1)) (own := [("place", 2)]) (blkB_ok (by kernel_rfl)) (by decide) (fun s H C cl fp => (sg_name 2 sc_row_ties.nd)) (fun s H C cl fp => spt_nil) (fun s H C cl fp => (sx_tup (sa_cons (sx_var 2) (sa_cons (sx_bin op_addA (add_ok _) (sx_var 2) sx_int) sa_nil)))))))
theorem sc_kind_ties : FnScope ["kind", "size", "ties", "one", "place", "other"] ["kind"] (defScope s_kind_ties) := ⟨rfl, rfl, rfl, by decide +kernel, rfl, by decide +kernel, by decide +kernel⟩
theorem ok_kind_ties {P : Program} {w : World} {K : PySem.W.Frag} {mg : Str → Option Value} {base : Heap} {f : Addr} {fd : FuncData} (F : FunD K "kind_ties" "kind_ties" (defArgs s_kind_ties) (defBody s_kind_ties) (defScope s_kind_ties) [] [] f fd) (hm : mg "kind_ties" = some (.ref f)) (h_range : mg "range" = none) (C_spine_ties : Callee P w K mg base 1 "spine_ties" 1 M_spine_ties) (C_row_ties : Callee P w K mg base 1 "row_ties" 2 M_row_ties) :
    Callee P w K mg base 2 "kind_ties" 1 M_kind_ties :=
  calleeOf F sc_kind_ties hm (fun _ _ _ _ _ _ us hl => match us, hl with | [_], _ => rfl) fun cdv A outer s H E hr =>
  (ss_cons (ss_if (st_cmp (op_eqD (u64 hr)) (eq_ok _) (sx_item (u65 hr) (sx_var 0) sx_int) sx_str)
  (ss_one (ss_ret (sx_callC C_spine_ties hr rfl (lenA_cons lenA_nil) (sa_cons (sx_item (u65 hr) (sx_var 0) sx_int) sa_nil))))
  ss_nil)
  (ss_cons (ss_set 1 sc_kind_ties.nd (sx_item (u65 hr) (sx_var 0) sx_int))
  (ss_cons (ss_if (st_cmp (op_eqD (u64 hr)) (eq_ok _) (sx_item (u65 hr) (sx_var 0) sx_int) sx_str)
  (ss_one (ss_ret (sx_tup (sa_cons (sx_var 1) (sa_cons (sx_bin op_addA (add_ok _) (sx_callC C_row_ties hr rfl (lenA_cons (lenA_cons lenA_nil)) (sa_cons sx_int (sa_cons (sx_bin op_sub (sub_ok _) (sx_var 1) sx_int) sa_nil))) (sx_lst (sa_cons (sx_tup (sa_cons sx_int (sa_cons (sx_bin op_sub (sub_ok _) (sx_var 1) sx_int) sa_nil))) sa_nil))) sa_nil)))))
  ss_nil)
  (ss_cons (ss_if (st_cmp (op_eqD (u64 hr)) (eq_ok _) (sx_item (u65 hr) (sx_var 0) sx_int) sx_str)
  (ss_cons (ss_set 2 sc_kind_ties.nd (sx_lst sa_nil))
  (ss_cons (ss_for rfl (si_rng1 rfl h_range (sx_var 1)) (sg_name 3 sc_kind_ties.nd)
  (ss_one (ss_expr (sx_mutL 2 PySem.F.plainAttrs_list PySem.F.slot_list_extend rfl mt_extendA (extend_ok _) (sa_cons (sx_comp rfl sc_kind_ties.nd (si_rng2 rfl h_range (sx_bin op_addA (add_ok _) (sx_var 3) sx_int) (sx_var 1)) (own := [("other", 5)]) (blkB_ok (by kernel_rfl)) (by decide) (fun s H C cl fp => (sg_name 5 sc_kind_ties.nd)) (fun s H C cl fp => spt_nil) (fun s H C cl fp => (sx_tup (sa_cons (sx_var 3) (sa_cons (sx_var 5) sa_nil))))) sa_nil)))))
  (ss_one (ss_ret (sx_tup (sa_cons (sx_var 1) (sa_cons (sx_var 2) sa_nil)))))))
  ss_nil)
  (ss_cons (ss_if (st_cmp (op_eqD (u64 hr)) (eq_ok _) (sx_item (u65 hr) (sx_var 0) sx_int) sx_str)
  (ss_cons (ss_set 2 sc_kind_ties.nd (sx_lst sa_nil))
  (ss_cons (ss_for rfl (si_rng1 rfl h_range (sx_var 1)) (sg_name 3 sc_kind_ties.nd)
  (ss_one (ss_expr (sx_mutL 2 PySem.F.plainAttrs_list PySem.F.slot_list_extend rfl mt_extendA (extend_ok _) (sa_cons (sx_comp rfl sc_kind_ties.nd (si_rng1 rfl h_range (sx_item (u65 hr) (sx_var 0) sx_int)) (own := [("other", 5)]) (blkB_ok (by kernel_rfl)) (by decide) (fun s H C cl fp => (sg_name 5 sc_kind_ties.nd)) (fun s H C cl fp => spt_nil) (fun s H C cl fp => (sx_tup (sa_cons (sx_var 3) (sa_cons (sx_bin op_addA (add_ok _) (sx_var 1) (sx_var 5)) sa_nil))))) sa_nil)))))
  (ss_one (ss_ret (sx_tup (sa_cons (sx_bin op_addA (add_ok _) (sx_var 1) (sx_item (u65 hr) (sx_var 0) sx_int)) (sa_cons (sx_var 2) sa_nil)))))))
  ss_nil)
  (ss_cons (ss_set 2 sc_kind_ties.nd (sx_bin op_addA (add_ok _) (sx_comp rfl sc_kind_ties.nd (si_rng2 rfl h_range sx_int (sx_bin op_addA (add_ok _) (sx_var 1) sx_int)) (own := [("place", 4)]) (blkB_ok (by kernel_rfl)) (by decide) (fun s H C cl fp => (sg_name 4 sc_kind_ties.nd)) (fun s H C cl fp => spt_nil) (fun s H C cl fp => (sx_tup (sa_cons sx_int (sa_cons (sx_var 4) sa_nil))))) (sx_callC C_row_ties hr rfl (lenA_cons (lenA_cons lenA_nil)) (sa_cons sx_int (sa_cons (sx_var 1) sa_nil)))))
  (ss_cons (ss_if (st_cmp (op_eqD (u64 hr)) (eq_ok _) (sx_item (u65 hr) (sx_var 0) sx_int) sx_str)
  (ss_one (ss_expr (sx_mutL 2 PySem.F.plainAttrs_list PySem.F.slot_list_append rfl mt_append (append_ok _) (sa_cons (sx_tup (sa_cons sx_int (sa_cons (sx_var 1) sa_nil))) sa_nil))))
  ss_nil)
  (ss_one (ss_ret (sx_tup (sa_cons (sx_bin op_addA (add_ok _) (sx_var 1) sx_int) (sa_cons (sx_var 2) sa_nil))))))))))))
theorem sc_kind_good : FnScope ["thing", "many", "ties"] ["thing"] (defScope s_kind_good) := ⟨rfl, rfl, rfl, by decide +kernel, rfl, by decide +kernel, by decide +kernel⟩
theorem ok_kind_good {P : Program} {w : World} {K : PySem.W.Frag} {mg : Str → Option Value} {base : Heap} {f : Addr} {fd : FuncData} (F : FunD K "kind_good" "kind_good" (defArgs s_kind_good) (defBody s_kind_good) (defScope s_kind_good) [] [] f fd) (hm : mg "kind_good" = some (.ref f)) (i_MOST_PLACES : ∃ t, mg "MOST_PLACES" = some (.int (40) t)) (h_len : mg "len" = none) (i_MOST_TIES : ∃ t, mg "MOST_TIES" = some (.int (60) t)) (C_kind_form : Callee P w K mg base 3 "kind_form" 1 M_kind_form) (C_kind_ties : Callee P w K mg base 3 "kind_ties" 1 M_kind_ties) :
    Callee P w K mg base 4 "kind_good" 1 M_kind_good :=
  calleeOf F sc_kind_good hm (fun _ _ _ _ _ _ us hl => match us, hl with | [_], _ => rfl) fun cdv A outer s H E hr =>
  (ss_cons (ss_if (st_not (st_val (sx_callC C_kind_form hr rfl (lenA_cons lenA_nil) (sa_cons (sx_var 0) sa_nil))))
  (ss_one (ss_ret sx_bl))
  ss_nil)
  (ss_cons (ss_unp (sx_callC C_kind_ties hr rfl (lenA_cons lenA_nil) (sa_cons (sx_var 0) sa_nil)) (sg_tup rfl (sgs_cons (sg_name 1 sc_kind_good.nd) (sgs_cons (sg_name 2 sc_kind_good.nd) sgs_nil))))
  (ss_one (ss_ret (sx_and (sx_cmp op_le (ltG_ok _ _) (sx_var 1) (sx_gint rfl i_MOST_PLACES)) (sx_one (sx_cmp op_le (ltG_ok _ _) (sx_callB cr_lenA (len_ok _) rfl h_len boot_len (sa_cons (sx_var 2) sa_nil)) (sx_gint rfl i_MOST_TIES))))))))
theorem sc_web_for : FnScope ["kind", "many", "ties"] ["kind"] (defScope s_web_for) := ⟨rfl, rfl, rfl, by decide +kernel, rfl, by decide +kernel, by decide +kernel⟩
theorem ok_web_for {P : Program} {w : World} {K : PySem.W.Frag} {mg : Str → Option Value} {base : Heap} {f : Addr} {fd : FuncData} (F : FunD K "web_for" "web_for" (defArgs s_web_for) (defBody s_web_for) (defScope s_web_for) [] [] f fd) (hm : mg "web_for" = some (.ref f)) (EX : ExS K mg XS) (x_NoKind : (He.Fa.exc "NoKind").ok K = true) (h_sorted : mg "sorted" = none) (h_tuple : mg "tuple" = none) (C_kind_good : Callee P w K mg base 4 "kind_good" 1 M_kind_good) (C_kind_ties : Callee P w K mg base 4 "kind_ties" 1 M_kind_ties) :
    Callee P w K mg base 5 "web_for" 1 M_web_for :=
  calleeOf F sc_web_for hm (fun _ _ _ _ _ _ us hl => match us, hl with | [_], _ => rfl) fun cdv A outer s H E hr =>
  (ss_cons (ss_if (st_not (st_val (sx_callC C_kind_good hr rfl (lenA_cons lenA_nil) (sa_cons (sx_var 0) sa_nil))))
  (ss_one (ss_raise0 rfl rfl (EX.all "NoKind" (by decide)).glo x_NoKind))
  ss_nil)
  (ss_cons (ss_unp (sx_callC C_kind_ties hr rfl (lenA_cons lenA_nil) (sa_cons (sx_var 0) sa_nil)) (sg_tup rfl (sgs_cons (sg_name 1 sc_web_for.nd) (sgs_cons (sg_name 2 sc_web_for.nd) sgs_nil))))
  (ss_one (ss_ret (sx_tup (sa_cons (sx_var 1) (sa_cons (sx_callTy cr_tupK (tuple_ok _) rfl h_tuple boot_tuple (sa_cons (sx_callB (cr_sortD hr) (sorted_ok _) rfl h_sorted boot_sorted (sa_cons (sx_var 2) sa_nil)) sa_nil)) sa_nil)))))))
theorem sc_check_made : FnScope ["kind", "words"] ["kind", "words"] (defScope s_check_made) := ⟨rfl, rfl, rfl, by decide +kernel, rfl, by decide +kernel, by decide +kernel⟩
theorem ok_check_made {P : Program} {w : World} {K : PySem.W.Frag} {mg : Str → Option Value} {base : Heap} {f : Addr} {fd : FuncData} (F : FunD K "check_made" "check_made" (defArgs s_check_made) (defBody s_check_made) (defScope s_check_made) [] [] f fd) (hm : mg "check_made" = some (.ref f)) (EX : ExS K mg XS) (x_NoKind : (He.Fa.exc "NoKind").ok K = true) (C_kind_good : Callee P w K mg base 4 "kind_good" 1 M_kind_good) :
    Callee P w K mg base 5 "check_made" 2 M_check_made :=
  calleeOf F sc_check_made hm (fun _ _ _ _ _ _ us hl => match us, hl with | [_, _], _ => rfl) fun cdv A outer s H E hr =>
  (ss_one (ss_if (st_w (sw_or (st_not (st_val (sx_callC C_kind_good hr rfl (lenA_cons lenA_nil) (sa_cons (sx_var 0) sa_nil)))) (sw_or1 (st_cmp (op_notInA (u65 hr)) (notIn_ok _) (sx_item (u65 hr) (sx_var 0) sx_int) (sx_var 1)))))
  (ss_one (ss_raise0 rfl rfl (EX.all "NoKind" (by decide)).glo x_NoKind))
  ss_nil))
theorem sc_spine_steps : FnScope ["legs", "count", "ends", "spine", "leaves", "side", "place", "many", "other", "leg"] ["legs"] (defScope s_spine_steps) := ⟨rfl, rfl, rfl, by decide +kernel, rfl, by decide +kernel, by decide +kernel⟩
theorem ok_spine_steps {P : Program} {w : World} {K : PySem.W.Frag} {mg : Str → Option Value} {base : Heap} {f : Addr} {fd : FuncData} (F : FunD K "spine_steps" "spine_steps" (defArgs s_spine_steps) (defBody s_spine_steps) (defScope s_spine_steps) [] [] f fd) (hm : mg "spine_steps" = some (.ref f)) (h_len : mg "len" = none) (h_sum : mg "sum" = none) (h_enumerate : mg "enumerate" = none) (h_range : mg "range" = none) (h_tuple : mg "tuple" = none) :
    Callee P w K mg base 1 "spine_steps" 1 M_spine_steps :=
  calleeOf F sc_spine_steps hm (fun _ _ _ _ _ _ us hl => match us, hl with | [_], _ => rfl) fun cdv A outer s H E hr =>
  (ss_cons (ss_set 1 sc_spine_steps.nd (sx_bin op_sub (sub_ok _) (sx_bin op_addA (add_ok _) (sx_callB cr_lenA (len_ok _) rfl h_len boot_len (sa_cons (sx_var 0) sa_nil)) (sx_callB (cr_sumA rfl) (sum_ok _) rfl h_sum boot_sum (sa_cons (sx_var 0) sa_nil))) sx_int))
  (ss_cons (ss_set 2 sc_spine_steps.nd (sx_lst (sa_cons sx_int (sa_cons (sx_var 1) sa_nil))))
  (ss_cons (ss_set 3 sc_spine_steps.nd (sx_lst sa_nil))
  (ss_cons (ss_set 4 sc_spine_steps.nd (sx_lst sa_nil))
  (ss_cons (ss_set 5 sc_spine_steps.nd sx_int)
  (ss_cons (ss_expr (sx_mutL 3 PySem.F.plainAttrs_list PySem.F.slot_list_append rfl mt_append (append_ok _) (sa_cons (sx_item (u65 hr) (sx_var 2) sx_int) sa_nil)))
  (ss_cons (ss_augS 2 set_list (putL_ok _) ip_add sx_int sx_int)
  (ss_cons (ss_for rfl (si_enum rfl h_enumerate (sx_var 0)) (sg_tup rfl (sgs_cons (sg_name 6 sc_spine_steps.nd) (sgs_cons (sg_name 7 sc_spine_steps.nd) sgs_nil)))
  (ss_cons (ss_set 8 sc_spine_steps.nd (sx_bin op_sub (sub_ok _) sx_int (sx_var 5)))
  (ss_cons (ss_for rfl (si_rng1 rfl h_range (sx_var 7)) (sg_name 9 sc_spine_steps.nd)
  (ss_cons (ss_expr (sx_mutL 4 PySem.F.plainAttrs_list PySem.F.slot_list_append rfl mt_append (append_ok _) (sa_cons (sx_item (u65 hr) (sx_var 2) (sx_var 8)) sa_nil)))
  (ss_one (ss_augS 2 set_list (putL_ok _) ip_add (sx_var 8) (sx_bin op_sub (sub_ok _) sx_int (sx_bin op_mulA (mul_ok _) sx_int (sx_var 8)))))))
  (ss_cons (ss_if (st_cmp op_lt (ltG_ok _ _) (sx_bin op_addA (add_ok _) (sx_var 6) sx_int) (sx_callB cr_lenA (len_ok _) rfl h_len boot_len (sa_cons (sx_var 0) sa_nil)))
  (ss_cons (ss_expr (sx_mutL 3 PySem.F.plainAttrs_list PySem.F.slot_list_append rfl mt_append (append_ok _) (sa_cons (sx_item (u65 hr) (sx_var 2) (sx_var 8)) sa_nil)))
  (ss_one (ss_augS 2 set_list (putL_ok _) ip_add (sx_var 8) (sx_bin op_sub (sub_ok _) sx_int (sx_bin op_mulA (mul_ok _) sx_int (sx_var 8))))))
  ss_nil)
  (ss_one (ss_set 5 sc_spine_steps.nd (sx_var 8)))))))
  (ss_one (ss_ret (sx_callTy cr_tupK (tuple_ok _) rfl h_tuple boot_tuple (sa_cons (sx_bin op_addA (add_ok _) (sx_var 3) (sx_var 4)) sa_nil))))))))))))
theorem sc_sides_steps : FnScope ["one", "other", "number"] ["one", "other"] (defScope s_sides_steps) := ⟨rfl, rfl, rfl, by decide +kernel, rfl, by decide +kernel, by decide +kernel⟩
theorem ok_sides_steps {P : Program} {w : World} {K : PySem.W.Frag} {mg : Str → Option Value} {base : Heap} {f : Addr} {fd : FuncData} (F : FunD K "sides_steps" "sides_steps" (defArgs s_sides_steps) (defBody s_sides_steps) (defScope s_sides_steps) [] [] f fd) (hm : mg "sides_steps" = some (.ref f)) (h_range : mg "range" = none) (h_list : mg "list" = none) (h_tuple : mg "tuple" = none) :
    Callee P w K mg base 1 "sides_steps" 2 M_sides_steps :=
  calleeOf F sc_sides_steps hm (fun _ _ _ _ _ _ us hl => match us, hl with | [_, _], _ => rfl) fun cdv A outer s H E hr =>
  (ss_one (ss_ret (sx_callTy cr_tupK (tuple_ok _) rfl h_tuple boot_tuple (sa_cons (sx_bin op_addA (add_ok _) (sx_lstRg rfl rfl h_list (sr_1 rfl h_range (sx_var 0))) (sx_comp rfl sc_sides_steps.nd (si_rng2 rfl h_range sx_int (sx_bin op_addA (add_ok _) (sx_var 1) sx_int)) (own := [("number", 2)]) (blkB_ok (by kernel_rfl)) (by decide) (fun s H C cl fp => (sg_name 2 sc_sides_steps.nd)) (fun s H C cl fp => spt_nil) (fun s H C cl fp => (sx_bin op_mulA (mul_ok _) (sx_var 0) (sx_var 2))))) sa_nil))))
theorem sc_ring_steps : FnScope ["size", "found", "place", "number"] ["size"] (defScope s_ring_steps) := ⟨rfl, rfl, rfl, by decide +kernel, rfl, by decide +kernel, by decide +kernel⟩
theorem ok_ring_steps {P : Program} {w : World} {K : PySem.W.Frag} {mg : Str → Option Value} {base : Heap} {f : Addr} {fd : FuncData} (F : FunD K "ring_steps" "ring_steps" (defArgs s_ring_steps) (defBody s_ring_steps) (defScope s_ring_steps) [] [] f fd) (hm : mg "ring_steps" = some (.ref f)) (h_range : mg "range" = none) (h_tuple : mg "tuple" = none) :
    Callee P w K mg base 1 "ring_steps" 1 M_ring_steps :=
  calleeOf F sc_ring_steps hm (fun _ _ _ _ _ _ us hl => match us, hl with | [_], _ => rfl) fun cdv A outer s H E hr =>
  (ss_cons (ss_set 1 sc_ring_steps.nd (sx_lst sa_nil))
  (ss_cons (ss_for rfl (si_rng1 rfl h_range (sx_var 0)) (sg_name 2 sc_ring_steps.nd)
  (ss_cons (ss_set 3 sc_ring_steps.nd (sx_bin op_fdivW (div_ok _) (sx_var 2) sx_int))
  (ss_cons (ss_if (st_cmp (op_eqD (u64 hr)) (eq_ok _) (sx_bin op_mod (mod_ok _) (sx_var 2) sx_int) sx_int)
  (ss_one (ss_set 3 sc_ring_steps.nd (sx_bin op_sub (sub_ok _) (sx_var 0) (sx_bin op_fdivW (div_ok _) (sx_var 2) sx_int))))
  ss_nil)
  (ss_cons (ss_if (st_w (sw_and (st_cmp op_ge (ltG_ok _ _) (sx_bin op_mulA (mul_ok _) sx_int (sx_var 2)) (sx_var 0)) (sw_and1 (st_cmp (op_eqD (u64 hr)) (eq_ok _) (sx_bin op_mod (mod_ok _) (sx_var 2) sx_int) (sx_bin op_sub (sub_ok _) sx_int (sx_bin op_mod (mod_ok _) (sx_var 0) sx_int))))))
  (ss_one (ss_augI 3 sc_ring_steps.nd ip_add (sx_item (u65 hr) (sx_lst (sa_cons sx_int (sa_cons (sx_un un_neg (neg_ok _) sx_int) sa_nil))) (sx_bin op_mod (mod_ok _) (sx_var 2) sx_int))))
  ss_nil)
  (ss_one (ss_expr (sx_mutL 1 PySem.F.plainAttrs_list PySem.F.slot_list_append rfl mt_append (append_ok _) (sa_cons (sx_var 3) sa_nil))))))))
  (ss_one (ss_ret (sx_callTy cr_tupK (tuple_ok _) rfl h_tuple boot_tuple (sa_cons (sx_var 1) sa_nil))))))
theorem sc_steps_for : FnScope ["kind"] ["kind"] (defScope s_steps_for) := ⟨rfl, rfl, rfl, by decide +kernel, rfl, by decide +kernel, by decide +kernel⟩
theorem ok_steps_for {P : Program} {w : World} {K : PySem.W.Frag} {mg : Str → Option Value} {base : Heap} {f : Addr} {fd : FuncData} (F : FunD K "steps_for" "steps_for" (defArgs s_steps_for) (defBody s_steps_for) (defScope s_steps_for) [] [] f fd) (hm : mg "steps_for" = some (.ref f)) (C_check_made : Callee P w K mg base 5 "check_made" 2 M_check_made) (C_spine_steps : Callee P w K mg base 5 "spine_steps" 1 M_spine_steps) (C_sides_steps : Callee P w K mg base 5 "sides_steps" 2 M_sides_steps) (C_ring_steps : Callee P w K mg base 5 "ring_steps" 1 M_ring_steps) :
    Callee P w K mg base 6 "steps_for" 1 M_steps_for :=
  calleeOf F sc_steps_for hm (fun _ _ _ _ _ _ us hl => match us, hl with | [_], _ => rfl) fun cdv A outer s H E hr =>
  (ss_cons (ss_expr (sx_callC C_check_made hr rfl (lenA_cons (lenA_cons lenA_nil)) (sa_cons (sx_var 0) (sa_cons (sx_tup (sa_cons sx_str (sa_cons sx_str (sa_cons sx_str sa_nil)))) sa_nil))))
  (ss_cons (ss_if (st_cmp (op_eqD (u64 hr)) (eq_ok _) (sx_item (u65 hr) (sx_var 0) sx_int) sx_str)
  (ss_one (ss_ret (sx_tup (sa_cons sx_str (sa_cons (sx_callC C_spine_steps hr rfl (lenA_cons lenA_nil) (sa_cons (sx_item (u65 hr) (sx_var 0) sx_int) sa_nil)) sa_nil)))))
  ss_nil)
  (ss_cons (ss_if (st_cmp (op_eqD (u64 hr)) (eq_ok _) (sx_item (u65 hr) (sx_var 0) sx_int) sx_str)
  (ss_one (ss_ret (sx_tup (sa_cons sx_str (sa_cons (sx_callC C_sides_steps hr rfl (lenA_cons (lenA_cons lenA_nil)) (sa_cons (sx_item (u65 hr) (sx_var 0) sx_int) (sa_cons (sx_item (u65 hr) (sx_var 0) sx_int) sa_nil))) sa_nil)))))
  ss_nil)
  (ss_cons (ss_if (st_cmp (op_inA (u65 hr)) (in_ok _) (sx_bin op_mod (mod_ok _) (sx_item (u65 hr) (sx_var 0) sx_int) sx_int) (sx_tup (sa_cons sx_int (sa_cons sx_int sa_nil))))
  (ss_one (ss_ret (sx_tup (sa_cons sx_str (sa_cons (sx_tup (sa_cons sx_str sa_nil)) sa_nil)))))
  ss_nil)
  (ss_one (ss_ret (sx_tup (sa_cons sx_str (sa_cons (sx_callC C_ring_steps hr rfl (lenA_cons lenA_nil) (sa_cons (sx_item (u65 hr) (sx_var 0) sx_int) sa_nil)) sa_nil)))))))))
theorem sc_check_folded : FnScope ["count"] ["count"] (defScope s_check_folded) := ⟨rfl, rfl, rfl, by decide +kernel, rfl, by decide +kernel, by decide +kernel⟩
theorem ok_check_folded {P : Program} {w : World} {K : PySem.W.Frag} {mg : Str → Option Value} {base : Heap} {f : Addr} {fd : FuncData} (F : FunD K "check_folded" "check_folded" (defArgs s_check_folded) (defBody s_check_folded) (defScope s_check_folded) [] [] f fd) (hm : mg "check_folded" = some (.ref f)) (i_MOST_FOLDED : ∃ t, mg "MOST_FOLDED" = some (.int (30) t)) (EX : ExS K mg XS) (OX : oxAll RS K = true) (RA_TooGreat : RaiseA P w K mg base 1 "TooGreat" ["many", "most"]) :
    Callee P w K mg base 3 "check_folded" 1 M_check_folded :=
  calleeOf F sc_check_folded hm (fun _ _ _ _ _ _ us hl => match us, hl with | [_], _ => rfl) fun cdv A outer s H E hr =>
  (ss_one (ss_if (st_cmp op_gt (ltG_ok _ _) (sx_var 0) (sx_gint rfl i_MOST_FOLDED))
  (ss_one (ss_raiseA RA_TooGreat rfl hr rfl (lenA_cons (lenA_cons lenA_nil)) (by decide) (sa_cons (sx_var 0) (sa_cons (sx_gint rfl i_MOST_FOLDED) sa_nil))))
  ss_nil))
theorem sc_round_copies : FnScope ["numbers", "size", "turn", "number"] ["numbers", "size"] (defScope s_round_copies) := ⟨rfl, rfl, rfl, by decide +kernel, rfl, by decide +kernel, by decide +kernel⟩
theorem ok_round_copies {P : Program} {w : World} {K : PySem.W.Frag} {mg : Str → Option Value} {base : Heap} {f : Addr} {fd : FuncData} (F : FunD K "round_copies" "round_copies" (defArgs s_round_copies) (defBody s_round_copies) (defScope s_round_copies) [] [] f fd) (hm : mg "round_copies" = some (.ref f)) (h_range : mg "range" = none) (h_tuple : mg "tuple" = none) :
    Callee P w K mg base 1 "round_copies" 2 M_round_copies :=
  calleeOf F sc_round_copies hm (fun _ _ _ _ _ _ us hl => match us, hl with | [_, _], _ => rfl) fun cdv A outer s H E hr =>
  (ss_one (ss_ret (sx_comp rfl sc_round_copies.nd (si_rng1 rfl h_range (sx_var 1)) (own := [("turn", 2)]) (blkB_ok (by kernel_rfl)) (by decide) (fun s H C cl fp => (sg_name 2 sc_round_copies.nd)) (fun s H C cl fp => spt_nil) (fun s H C cl fp => (sx_callTy cr_tupK (tuple_ok _) rfl h_tuple boot_tuple (sa_cons (sx_comp rfl sc_round_copies.nd (si_seq (sx_var 0)) (own := [("number", 3)]) (blkB_ok (by kernel_rfl)) (by decide) (fun s H C cl fp => (sg_name 3 sc_round_copies.nd)) (fun s H C cl fp => spt_nil) (fun s H C cl fp => (sx_bin op_mod (mod_ok _) (sx_bin op_addA (add_ok _) (sx_var 3) (sx_var 2)) (sx_var 1)))) sa_nil))))))
theorem sc_cut_by : FnScope ["web", "numbering"] ["web", "numbering"] (defScope s_cut_by) := ⟨rfl, rfl, rfl, by decide +kernel, rfl, by decide +kernel, by decide +kernel⟩
theorem ok_cut_by {P : Program} {w : World} {K : PySem.W.Frag} {mg : Str → Option Value} {base : Heap} {f : Addr} {fd : FuncData} (F : FunD K "cut_by" "cut_by" (defArgs s_cut_by) (defBody s_cut_by) (defScope s_cut_by) [] [] f fd) (hm : mg "cut_by" = some (.ref f)) (h_len : mg "len" = none) (C_check_folded : Callee P w K mg base 3 "check_folded" 1 M_check_folded) (C_round_copies : Callee P w K mg base 3 "round_copies" 2 M_round_copies) :
    Callee P w K mg base 4 "cut_by" 2 M_cut_by :=
  calleeOf F sc_cut_by hm (fun _ _ _ _ _ _ us hl => match us, hl with | [_, _], _ => rfl) fun cdv A outer s H E hr =>
  (ss_cons (ss_expr (sx_callC C_check_folded hr rfl (lenA_cons lenA_nil) (sa_cons (sx_callB cr_lenA (len_ok _) rfl h_len boot_len (sa_cons (sx_item (u65 hr) (sx_var 0) sx_int) sa_nil)) sa_nil)))
  (ss_one (ss_ret (sx_callC C_round_copies hr rfl (lenA_cons (lenA_cons lenA_nil)) (sa_cons (sx_var 1) (sa_cons (sx_bin op_addA (add_ok _) (sx_bin op_mulA (mul_ok _) sx_int (sx_callB cr_lenA (len_ok _) rfl h_len boot_len (sa_cons (sx_item (u65 hr) (sx_var 0) sx_int) sa_nil))) sx_int) sa_nil))))))
theorem sc_copy_good : FnScope ["web", "size", "thing", "place"] ["web", "size", "thing"] (defScope s_copy_good) := ⟨rfl, rfl, rfl, by decide +kernel, rfl, by decide +kernel, by decide +kernel⟩
theorem ok_copy_good {P : Program} {w : World} {K : PySem.W.Frag} {mg : Str → Option Value} {base : Heap} {f : Addr} {fd : FuncData} (F : FunD K "copy_good" "copy_good" (defArgs s_copy_good) (defBody s_copy_good) (defScope s_copy_good) [] [] f fd) (hm : mg "copy_good" = some (.ref f)) (h_isinstance : mg "isinstance" = none) (h_tuple : mg "tuple" = none) (h_len : mg "len" = none) (h_all : mg "all" = none) (h_set : mg "set" = none) (C_is_whole : Callee P w K mg base 1 "is_whole" 1 M_is_whole) :
    Callee P w K mg base 2 "copy_good" 3 M_copy_good :=
  calleeOf F sc_copy_good hm (fun _ _ _ _ _ _ us hl => match us, hl with | [_, _, _], _ => rfl) fun cdv A outer s H E hr =>
  (ss_cons (ss_if (st_w (sw_or (st_not (st_val (sx_isi rfl h_isinstance rfl h_tuple boot_tuple (sx_var 2)))) (sw_or1 (st_cmp (op_neD (u64 hr)) (ne_ok _) (sx_callB cr_lenA (len_ok _) rfl h_len boot_len (sa_cons (sx_var 2) sa_nil)) (sx_item (u65 hr) (sx_var 0) sx_int)))))
  (ss_one (ss_ret sx_bl))
  ss_nil)
  (ss_cons (ss_if (st_not (st_val (sx_callB (cr_all rfl) (all_ok _) rfl h_all boot_all (sa_cons (sx_comp rfl sc_copy_good.nd (si_seq (sx_var 2)) (own := [("place", 3)]) (blkB_ok (by kernel_rfl)) (by decide) (fun s H C cl fp => (sg_name 3 sc_copy_good.nd)) (fun s H C cl fp => spt_nil) (fun s H C cl fp => (sx_and (sx_callC C_is_whole hr rfl (lenA_cons lenA_nil) (sa_cons (sx_var 3) sa_nil)) (sx_one (sx_chain op_le (ltG_ok _ _) op_lt (ltG_ok _ _) sx_int (sx_var 3) (sx_var 1)))))) sa_nil))))
  (ss_one (ss_ret sx_bl))
  ss_nil)
  (ss_one (ss_ret (sx_cmp (op_eqD (u64 hr)) (eq_ok _) (sx_lenSet rfl rfl h_len rfl h_set (sx_var 2)) (sx_callB cr_lenA (len_ok _) rfl h_len boot_len (sa_cons (sx_var 2) sa_nil)))))))
theorem sc_copy_ties : FnScope ["web", "copy", "a", "b"] ["web", "copy"] (defScope s_copy_ties) := ⟨rfl, rfl, rfl, by decide +kernel, rfl, by decide +kernel, by decide +kernel⟩
theorem ok_copy_ties {P : Program} {w : World} {K : PySem.W.Frag} {mg : Str → Option Value} {base : Heap} {f : Addr} {fd : FuncData} (F : FunD K "copy_ties" "copy_ties" (defArgs s_copy_ties) (defBody s_copy_ties) (defScope s_copy_ties) [] [] f fd) (hm : mg "copy_ties" = some (.ref f)) (h_min : mg "min" = none) (h_max : mg "max" = none) :
    Callee P w K mg base 1 "copy_ties" 2 M_copy_ties :=
  calleeOf F sc_copy_ties hm (fun _ _ _ _ _ _ us hl => match us, hl with | [_, _], _ => rfl) fun cdv A outer s H E hr =>
  (ss_one (ss_ret (sx_comp rfl sc_copy_ties.nd (si_seq (sx_item (u65 hr) (sx_var 0) sx_int)) (own := [("a", 2), ("b", 3)]) (blkB_ok (by kernel_rfl)) (by decide) (fun s H C cl fp => (sg_tup rfl (sgs_cons (sg_name 2 sc_copy_ties.nd) (sgs_cons (sg_name 3 sc_copy_ties.nd) sgs_nil)))) (fun s H C cl fp => spt_nil) (fun s H C cl fp => (sx_tup (sa_cons (sx_callB (call_min2 rfl) (min2_ok _) rfl h_min boot_min (sa_cons (sx_item (u65 hr) (sx_var 1) (sx_var 2)) (sa_cons (sx_item (u65 hr) (sx_var 1) (sx_var 3)) sa_nil))) (sa_cons (sx_callB (call_max2 rfl) (max2_ok _) rfl h_max boot_max (sa_cons (sx_item (u65 hr) (sx_var 1) (sx_var 2)) (sa_cons (sx_item (u65 hr) (sx_var 1) (sx_var 3)) sa_nil))) sa_nil)))))))
theorem sc_cut_good : FnScope ["web", "size", "thing", "met", "copy", "tie"] ["web", "size", "thing"] (defScope s_cut_good) := ⟨rfl, rfl, rfl, by decide +kernel, rfl, by decide +kernel, by decide +kernel⟩
theorem ok_cut_good {P : Program} {w : World} {K : PySem.W.Frag} {mg : Str → Option Value} {base : Heap} {f : Addr} {fd : FuncData} (F : FunD K "cut_good" "cut_good" (defArgs s_cut_good) (defBody s_cut_good) (defScope s_cut_good) [] [] f fd) (hm : mg "cut_good" = some (.ref f)) (h_isinstance : mg "isinstance" = none) (h_list : mg "list" = none) (h_all : mg "all" = none) (h_len : mg "len" = none) (C_copy_good : Callee P w K mg base 2 "copy_good" 3 M_copy_good) (C_copy_ties : Callee P w K mg base 2 "copy_ties" 2 M_copy_ties) :
    Callee P w K mg base 3 "cut_good" 3 M_cut_good :=
  calleeOf F sc_cut_good hm (fun _ _ _ _ _ _ us hl => match us, hl with | [_, _, _], _ => rfl) fun cdv A outer s H E hr =>
  (ss_cons (ss_if (st_w (sw_or (st_not (st_val (sx_isi rfl h_isinstance rfl h_list boot_list (sx_var 2)))) (sw_or1 (st_not (st_val (sx_callB (cr_all rfl) (all_ok _) rfl h_all boot_all (sa_cons (sx_comp rfl sc_cut_good.nd (si_seq (sx_var 2)) (own := [("copy", 4)]) (blkB_ok (by kernel_rfl)) (by decide) (fun s H C cl fp => (sg_name 4 sc_cut_good.nd)) (fun s H C cl fp => spt_nil) (fun s H C cl fp => (sx_callC C_copy_good hr rfl (lenA_cons (lenA_cons (lenA_cons lenA_nil))) (sa_cons (sx_var 0) (sa_cons (sx_var 1) (sa_cons (sx_var 4) sa_nil)))))) sa_nil)))))))
  (ss_one (ss_ret sx_bl))
  ss_nil)
  (ss_cons (ss_set 3 sc_cut_good.nd sx_newT)
  (ss_cons (ss_for rfl (si_seq (sx_var 2)) (sg_name 4 sc_cut_good.nd)
  (ss_one (ss_for rfl (si_seq (sx_callC C_copy_ties hr rfl (lenA_cons (lenA_cons lenA_nil)) (sa_cons (sx_var 0) (sa_cons (sx_var 4) sa_nil)))) (sg_name 5 sc_cut_good.nd)
  (ss_cons (ss_if (st_cmp (op_inA (u65 hr)) (in_ok _) (sx_var 5) (sx_var 3))
  (ss_one (ss_ret sx_bl))
  ss_nil)
  (ss_one (ss_unp sx_bl (sg_put 3 (set_any (u65 hr)) (putA_ok _) (sx_var 5))))))))
  (ss_one (ss_ret (sx_cmp (op_eqD (u64 hr)) (eq_ok _) (sx_bin op_mulA (mul_ok _) sx_int (sx_callB cr_lenA (len_ok _) rfl h_len boot_len (sa_cons (sx_var 3) sa_nil))) (sx_bin op_mulA (mul_ok _) (sx_var 1) (sx_bin op_sub (sub_ok _) (sx_var 1) sx_int))))))))
theorem sc_found_in : FnScope ["web", "numbering", "one", "other", "count", "size", "place", "tie", "ends", "low", "step"] ["web", "numbering", "one", "other"] (defScope s_found_in) := ⟨rfl, rfl, rfl, by decide +kernel, rfl, by decide +kernel, by decide +kernel⟩
theorem ok_found_in {P : Program} {w : World} {K : PySem.W.Frag} {mg : Str → Option Value} {base : Heap} {f : Addr} {fd : FuncData} (F : FunD K "found_in" "found_in" (defArgs s_found_in) (defBody s_found_in) (defScope s_found_in) [] [] f fd) (hm : mg "found_in" = some (.ref f)) (h_len : mg "len" = none) (EX : ExS K mg XS) (x_NoPlace : (He.Fa.exc "NoPlace").ok K = true) (h_enumerate : mg "enumerate" = none) (h_min : mg "min" = none) (h_abs : mg "abs" = none) (C_check_folded : Callee P w K mg base 3 "check_folded" 1 M_check_folded) (C_is_whole : Callee P w K mg base 3 "is_whole" 1 M_is_whole) :
    Callee P w K mg base 4 "found_in" 4 M_found_in :=
  calleeOf F sc_found_in hm (fun _ _ _ _ _ _ us hl => match us, hl with | [_, _, _, _], _ => rfl) fun cdv A outer s H E hr =>
  (ss_cons (ss_set 4 sc_found_in.nd (sx_callB cr_lenA (len_ok _) rfl h_len boot_len (sa_cons (sx_item (u65 hr) (sx_var 0) sx_int) sa_nil)))
  (ss_cons (ss_expr (sx_callC C_check_folded hr rfl (lenA_cons lenA_nil) (sa_cons (sx_var 4) sa_nil)))
  (ss_cons (ss_set 5 sc_found_in.nd (sx_bin op_addA (add_ok _) (sx_bin op_mulA (mul_ok _) sx_int (sx_var 4)) sx_int))
  (ss_cons (ss_for rfl (si_seq (sx_tup (sa_cons (sx_var 2) (sa_cons (sx_var 3) sa_nil)))) (sg_name 6 sc_found_in.nd)
  (ss_one (ss_if (st_w (sw_or (st_not (st_val (sx_callC C_is_whole hr rfl (lenA_cons lenA_nil) (sa_cons (sx_var 6) sa_nil)))) (sw_or (st_cmp op_lt (ltG_ok _ _) (sx_var 6) sx_int) (sw_or1 (st_cmp op_ge (ltG_ok _ _) (sx_var 6) (sx_var 5))))))
  (ss_one (ss_raise0 rfl rfl (EX.all "NoPlace" (by decide)).glo x_NoPlace))
  ss_nil)))
  (ss_cons (ss_if (st_cmp (op_eqD (u64 hr)) (eq_ok _) (sx_var 2) (sx_var 3))
  (ss_one (ss_raise0 rfl rfl (EX.all "NoPlace" (by decide)).glo x_NoPlace))
  ss_nil)
  (ss_cons (ss_for rfl (si_enum rfl h_enumerate (sx_item (u65 hr) (sx_var 0) sx_int)) (sg_tup rfl (sgs_cons (sg_name 7 sc_found_in.nd) (sgs_cons (sg_name 8 sc_found_in.nd) sgs_nil)))
  (ss_cons (ss_set 9 sc_found_in.nd (sx_callB (call_min2 rfl) (min2_ok _) rfl h_min boot_min (sa_cons (sx_item (u65 hr) (sx_var 1) (sx_item (u65 hr) (sx_var 8) sx_int)) (sa_cons (sx_item (u65 hr) (sx_var 1) (sx_item (u65 hr) (sx_var 8) sx_int)) sa_nil))))
  (ss_cons (ss_set 10 sc_found_in.nd (sx_callB call_abs (abs_ok _) rfl h_abs boot_abs (sa_cons (sx_bin op_sub (sub_ok _) (sx_item (u65 hr) (sx_var 1) (sx_item (u65 hr) (sx_var 8) sx_int)) (sx_item (u65 hr) (sx_var 1) (sx_item (u65 hr) (sx_var 8) sx_int))) sa_nil)))
  (ss_cons (ss_if (st_cmp (op_eqD (u64 hr)) (eq_ok _) (sx_bin op_mod (mod_ok _) (sx_bin op_sub (sub_ok _) (sx_var 3) (sx_var 2)) (sx_var 5)) (sx_var 10))
  (ss_one (ss_ret (sx_tup (sa_cons (sx_bin op_mod (mod_ok _) (sx_bin op_sub (sub_ok _) (sx_var 2) (sx_var 9)) (sx_var 5)) (sa_cons (sx_var 7) sa_nil)))))
  ss_nil)
  (ss_one (ss_if (st_cmp (op_eqD (u64 hr)) (eq_ok _) (sx_bin op_mod (mod_ok _) (sx_bin op_sub (sub_ok _) (sx_var 2) (sx_var 3)) (sx_var 5)) (sx_var 10))
  (ss_one (ss_ret (sx_tup (sa_cons (sx_bin op_mod (mod_ok _) (sx_bin op_sub (sub_ok _) (sx_var 3) (sx_var 9)) (sx_var 5)) (sa_cons (sx_var 7) sa_nil)))))
  ss_nil))))))
  (ss_one (ss_raise0 rfl rfl (EX.all "NoPlace" (by decide)).glo x_NoPlace))))))))
theorem sc__law_each_pair : FnScope ["web", "numbering", "cut", "size", "tally", "one", "other", "copy", "ends", "turn", "tie", "place"] ["web", "numbering", "cut"] (defScope s__law_each_pair) := ⟨rfl, rfl, rfl, by decide +kernel, rfl, by decide +kernel, by decide +kernel⟩
theorem ok__law_each_pair {P : Program} {w : World} {K : PySem.W.Frag} {mg : Str → Option Value} {base : Heap} {f : Addr} {fd : FuncData} (F : FunD K "_law_each_pair" "_law_each_pair" (defArgs s__law_each_pair) (defBody s__law_each_pair) (defScope s__law_each_pair) [] [] f fd) (hm : mg "_law_each_pair" = some (.ref f)) (h_len : mg "len" = none) (h_range : mg "range" = none) (h_sorted : mg "sorted" = none) (C_found_in : Callee P w K mg base 4 "found_in" 4 M_found_in) :
    Callee P w K mg base 5 "_law_each_pair" 3 M__law_each_pair :=
  calleeOf F sc__law_each_pair hm (fun _ _ _ _ _ _ us hl => match us, hl with | [_, _, _], _ => rfl) fun cdv A outer s H E hr =>
  (ss_cons (ss_set 3 sc__law_each_pair.nd (sx_bin op_addA (add_ok _) (sx_bin op_mulA (mul_ok _) sx_int (sx_callB cr_lenA (len_ok _) rfl h_len boot_len (sa_cons (sx_item (u65 hr) (sx_var 0) sx_int) sa_nil))) sx_int))
  (ss_cons (ss_set 4 sc__law_each_pair.nd (sx_bin op_mulA (mul_ok _) (sx_lst (sa_cons sx_int sa_nil)) (sx_var 3)))
  (ss_cons (ss_for rfl (si_rng1 rfl h_range (sx_var 3)) (sg_name 5 sc__law_each_pair.nd)
  (ss_one (ss_for rfl (si_rng1 rfl h_range (sx_var 5)) (sg_name 6 sc__law_each_pair.nd)
  (ss_cons (ss_unp (sx_callC C_found_in hr rfl (lenA_cons (lenA_cons (lenA_cons (lenA_cons lenA_nil)))) (sa_cons (sx_var 0) (sa_cons (sx_var 1) (sa_cons (sx_var 5) (sa_cons (sx_var 6) sa_nil))))) (sg_tup rfl (sgs_cons (sg_name 9 sc__law_each_pair.nd) (sgs_cons (sg_name 10 sc__law_each_pair.nd) sgs_nil))))
  (ss_cons (ss_set 7 sc__law_each_pair.nd (sx_item (u65 hr) (sx_var 2) (sx_var 9)))
  (ss_cons (ss_setComp 8 rfl sc__law_each_pair.nd (si_seq (sx_item (u65 hr) (sx_item (u65 hr) (sx_var 0) sx_int) (sx_var 10))) (own := [("place", 11)]) (blkB_ok (by kernel_rfl)) (by decide) (fun s H C cl fp => (sg_name 11 sc__law_each_pair.nd)) (fun s H C cl fp => spt_nil) (fun s H C cl fp => (sx_item (u65 hr) (sx_var 7) (sx_var 11))))
  (ss_cons (ss_if (st_cmp (op_neD (u64 hr)) (ne_ok _) (sx_callB (cr_sortD hr) (sorted_ok _) rfl h_sorted boot_sorted (sa_cons (sx_var 8) sa_nil)) (sx_lst (sa_cons (sx_var 6) (sa_cons (sx_var 5) sa_nil))))
  (ss_one (ss_ret sx_bl))
  ss_nil)
  (ss_cons (ss_unp (sx_bin op_addA (add_ok _) (sx_item (u65 hr) (sx_var 4) (sx_var 5)) sx_int) (sg_put 4 (set_any (u65 hr)) (putA_ok _) (sx_var 5)))
  (ss_one (ss_unp (sx_bin op_addA (add_ok _) (sx_item (u65 hr) (sx_var 4) (sx_var 6)) sx_int) (sg_put 4 (set_any (u65 hr)) (putA_ok _) (sx_var 6))))))))))))
  (ss_one (ss_ret (sx_cmp (op_eqD (u64 hr)) (eq_ok _) (sx_var 4) (sx_bin op_mulA (mul_ok _) (sx_lst (sa_cons (sx_bin op_sub (sub_ok _) (sx_var 3) sx_int) sa_nil)) (sx_var 3))))))))
theorem sc_grown_web : FnScope ["web", "place", "count", "room", "many", "ties", "number"] ["web", "place", "count"] (defScope s_grown_web) := ⟨rfl, rfl, rfl, by decide +kernel, rfl, by decide +kernel, by decide +kernel⟩
theorem ok_grown_web {P : Program} {w : World} {K : PySem.W.Frag} {mg : Str → Option Value} {base : Heap} {f : Addr} {fd : FuncData} (F : FunD K "grown_web" "grown_web" (defArgs s_grown_web) (defBody s_grown_web) (defScope s_grown_web) [] [] f fd) (hm : mg "grown_web" = some (.ref f)) (i_MOST_PLACES : ∃ t, mg "MOST_PLACES" = some (.int (40) t)) (i_MOST_TIES : ∃ t, mg "MOST_TIES" = some (.int (60) t)) (h_len : mg "len" = none) (h_min : mg "min" = none) (EX : ExS K mg XS) (OX : oxAll RS K = true) (h_range : mg "range" = none) (h_tuple : mg "tuple" = none) (h_sorted : mg "sorted" = none) (RA_NoWeb : RaiseA P w K mg base 1 "NoWeb" ["number"]) :
    Callee P w K mg base 3 "grown_web" 3 M_grown_web :=
  calleeOf F sc_grown_web hm (fun _ _ _ _ _ _ us hl => match us, hl with | [_, _, _], _ => rfl) fun cdv A outer s H E hr =>
  (ss_cons (ss_unp (sx_var 0) (sg_tup rfl (sgs_cons (sg_name 4 sc_grown_web.nd) (sgs_cons (sg_name 5 sc_grown_web.nd) sgs_nil))))
  (ss_cons (ss_set 3 sc_grown_web.nd (sx_callB (call_min2 rfl) (min2_ok _) rfl h_min boot_min (sa_cons (sx_bin op_sub (sub_ok _) (sx_gint rfl i_MOST_PLACES) (sx_var 4)) (sa_cons (sx_bin op_sub (sub_ok _) (sx_gint rfl i_MOST_TIES) (sx_callB cr_lenA (len_ok _) rfl h_len boot_len (sa_cons (sx_var 5) sa_nil))) sa_nil))))
  (ss_cons (ss_if (st_cmp op_gt (ltG_ok _ _) (sx_var 2) (sx_var 3))
  (ss_one (ss_raiseA RA_NoWeb rfl hr rfl (lenA_cons lenA_nil) (by decide) (sa_cons (sx_var 3) sa_nil)))
  ss_nil)
  (ss_one (ss_ret (sx_tup (sa_cons (sx_bin op_addA (add_ok _) (sx_var 4) (sx_var 2)) (sa_cons (sx_callTy cr_tupK (tuple_ok _) rfl h_tuple boot_tuple (sa_cons (sx_callB (cr_sortD hr) (sorted_ok _) rfl h_sorted boot_sorted (sa_cons (sx_bin op_addA (add_ok _) (sx_var 5) (sx_callTy cr_tupK (tuple_ok _) rfl h_tuple boot_tuple (sa_cons (sx_comp rfl sc_grown_web.nd (si_rng1 rfl h_range (sx_var 2)) (own := [("number", 6)]) (blkB_ok (by kernel_rfl)) (by decide) (fun s H C cl fp => (sg_name 6 sc_grown_web.nd)) (fun s H C cl fp => spt_nil) (fun s H C cl fp => (sx_tup (sa_cons (sx_var 1) (sa_cons (sx_bin op_addA (add_ok _) (sx_var 4) (sx_var 6)) sa_nil))))) sa_nil))) sa_nil)) sa_nil)) sa_nil))))))))
theorem sc_grown_above : FnScope ["web", "numbering", "count", "grown", "raised", "number"] ["web", "numbering", "count"] (defScope s_grown_above) := ⟨rfl, rfl, rfl, by decide +kernel, rfl, by decide +kernel, by decide +kernel⟩
theorem ok_grown_above {P : Program} {w : World} {K : PySem.W.Frag} {mg : Str → Option Value} {base : Heap} {f : Addr} {fd : FuncData} (F : FunD K "grown_above" "grown_above" (defArgs s_grown_above) (defBody s_grown_above) (defScope s_grown_above) [] [] f fd) (hm : mg "grown_above" = some (.ref f)) (h_len : mg "len" = none) (h_tuple : mg "tuple" = none) (h_range : mg "range" = none) (C_grown_web : Callee P w K mg base 3 "grown_web" 3 M_grown_web) :
    Callee P w K mg base 4 "grown_above" 3 M_grown_above :=
  calleeOf F sc_grown_above hm (fun _ _ _ _ _ _ us hl => match us, hl with | [_, _, _], _ => rfl) fun cdv A outer s H E hr =>
  (ss_cons (ss_set 3 sc_grown_above.nd (sx_callC C_grown_web hr rfl (lenA_cons (lenA_cons (lenA_cons lenA_nil))) (sa_cons (sx_var 0) (sa_cons (sx_mtT PySem.F.plainAttrs_tuple PySem.F.slot_tuple_index rfl mt_tIx (idxT_ok _) (sx_var 1) (sa_cons (sx_callB cr_lenA (len_ok _) rfl h_len boot_len (sa_cons (sx_item (u65 hr) (sx_var 0) sx_int) sa_nil)) sa_nil)) (sa_cons (sx_var 2) sa_nil)))))
  (ss_cons (ss_set 4 sc_grown_above.nd (sx_callTy cr_tupK (tuple_ok _) rfl h_tuple boot_tuple (sa_cons (sx_comp rfl sc_grown_above.nd (si_seq (sx_var 1)) (own := [("number", 5)]) (blkB_ok (by kernel_rfl)) (by decide) (fun s H C cl fp => (sg_name 5 sc_grown_above.nd)) (fun s H C cl fp => spt_nil) (fun s H C cl fp => (sx_bin op_addA (add_ok _) (sx_var 5) (sx_var 2)))) sa_nil)))
  (ss_one (ss_ret (sx_tup (sa_cons (sx_var 3) (sa_cons (sx_bin op_addA (add_ok _) (sx_var 4) (sx_callTy cr_tupK (tuple_ok _) rfl h_tuple boot_tuple (sa_cons (sx_comp rfl sc_grown_above.nd (si_rng1 rfl h_range (sx_var 2)) (own := [("number", 5)]) (blkB_ok (by kernel_rfl)) (by decide) (fun s H C cl fp => (sg_name 5 sc_grown_above.nd)) (fun s H C cl fp => spt_nil) (fun s H C cl fp => (sx_bin op_sub (sub_ok _) (sx_bin op_sub (sub_ok _) (sx_var 2) sx_int) (sx_var 5)))) sa_nil))) sa_nil)))))))
theorem sc_parted_for : FnScope ["kind"] ["kind"] (defScope s_parted_for) := ⟨rfl, rfl, rfl, by decide +kernel, rfl, by decide +kernel, by decide +kernel⟩
theorem ok_parted_for {P : Program} {w : World} {K : PySem.W.Frag} {mg : Str → Option Value} {base : Heap} {f : Addr} {fd : FuncData} (F : FunD K "parted_for" "parted_for" (defArgs s_parted_for) (defBody s_parted_for) (defScope s_parted_for) [] [] f fd) (hm : mg "parted_for" = some (.ref f)) (EX : ExS K mg XS) (x_NoKind : (He.Fa.exc "NoKind").ok K = true) (C_check_made : Callee P w K mg base 6 "check_made" 2 M_check_made) (C_web_for : Callee P w K mg base 6 "web_for" 1 M_web_for) (C_steps_for : Callee P w K mg base 6 "steps_for" 1 M_steps_for) :
    Callee P w K mg base 7 "parted_for" 1 M_parted_for :=
  calleeOf F sc_parted_for hm (fun _ _ _ _ _ _ us hl => match us, hl with | [_], _ => rfl) fun cdv A outer s H E hr =>
  (ss_cons (ss_expr (sx_callC C_check_made hr rfl (lenA_cons (lenA_cons lenA_nil)) (sa_cons (sx_var 0) (sa_cons (sx_tup (sa_cons sx_str (sa_cons sx_str sa_nil))) sa_nil))))
  (ss_cons (ss_if (st_cmp (op_eqD (u64 hr)) (eq_ok _) (sx_item (u65 hr) (sx_callC C_web_for hr rfl (lenA_cons lenA_nil) (sa_cons (sx_var 0) sa_nil)) sx_int) (sx_tup sa_nil))
  (ss_one (ss_raise0 rfl rfl (EX.all "NoKind" (by decide)).glo x_NoKind))
  ss_nil)
  (ss_one (ss_ret (sx_item (u65 hr) (sx_callC C_steps_for hr rfl (lenA_cons lenA_nil) (sa_cons (sx_var 0) sa_nil)) sx_int)))))
theorem sc_parting_of : FnScope ["web", "numbering", "a", "b"] ["web", "numbering"] (defScope s_parting_of) := ⟨rfl, rfl, rfl, by decide +kernel, rfl, by decide +kernel, by decide +kernel⟩
theorem ok_parting_of {P : Program} {w : World} {K : PySem.W.Frag} {mg : Str → Option Value} {base : Heap} {f : Addr} {fd : FuncData} (F : FunD K "parting_of" "parting_of" (defArgs s_parting_of) (defBody s_parting_of) (defScope s_parting_of) [] [] f fd) (hm : mg "parting_of" = some (.ref f)) (h_abs : mg "abs" = none) (h_min : mg "min" = none) :
    Callee P w K mg base 1 "parting_of" 2 M_parting_of :=
  calleeOf F sc_parting_of hm (fun _ _ _ _ _ _ us hl => match us, hl with | [_, _], _ => rfl) fun cdv A outer s H E hr =>
  (ss_cons (ss_for rfl (si_seq (sx_item (u65 hr) (sx_var 0) sx_int)) (sg_tup rfl (sgs_cons (sg_name 2 sc_parting_of.nd) (sgs_cons (sg_name 3 sc_parting_of.nd) sgs_nil)))
  (ss_one (ss_if (st_cmp (op_eqD (u64 hr)) (eq_ok _) (sx_callB call_abs (abs_ok _) rfl h_abs boot_abs (sa_cons (sx_bin op_sub (sub_ok _) (sx_item (u65 hr) (sx_var 1) (sx_var 2)) (sx_item (u65 hr) (sx_var 1) (sx_var 3))) sa_nil)) sx_int)
  (ss_one (ss_ret (sx_callB (call_min2 rfl) (min2_ok _) rfl h_min boot_min (sa_cons (sx_item (u65 hr) (sx_var 1) (sx_var 2)) (sa_cons (sx_item (u65 hr) (sx_var 1) (sx_var 3)) sa_nil)))))
  ss_nil)))
  (ss_one (ss_ret sx_int)))
theorem sc_folds_by : FnScope ["web", "numbering", "folds", "count", "parting", "found", "fold", "numbers", "number"] ["web", "numbering", "folds"] (defScope s_folds_by) := ⟨rfl, rfl, rfl, by decide +kernel, rfl, by decide +kernel, by decide +kernel⟩
theorem ok_folds_by {P : Program} {w : World} {K : PySem.W.Frag} {mg : Str → Option Value} {base : Heap} {f : Addr} {fd : FuncData} (F : FunD K "folds_by" "folds_by" (defArgs s_folds_by) (defBody s_folds_by) (defScope s_folds_by) [] [] f fd) (hm : mg "folds_by" = some (.ref f)) (h_len : mg "len" = none) (h_range : mg "range" = none) (h_int : mg "int" = none) (C_check_folded : Callee P w K mg base 3 "check_folded" 1 M_check_folded) (C_parting_of : Callee P w K mg base 3 "parting_of" 2 M_parting_of) (C_round_copies : Callee P w K mg base 3 "round_copies" 2 M_round_copies) :
    Callee P w K mg base 4 "folds_by" 3 M_folds_by :=
  calleeOf F sc_folds_by hm (fun _ _ _ _ _ _ us hl => match us, hl with | [_, _, _], _ => rfl) fun cdv A outer s H E hr =>
  (ss_cons (ss_set 3 sc_folds_by.nd (sx_callB cr_lenA (len_ok _) rfl h_len boot_len (sa_cons (sx_item (u65 hr) (sx_var 0) sx_int) sa_nil)))
  (ss_cons (ss_expr (sx_callC C_check_folded hr rfl (lenA_cons lenA_nil) (sa_cons (sx_bin op_mulA (mul_ok _) (sx_var 3) (sx_var 2)) sa_nil)))
  (ss_cons (ss_set 4 sc_folds_by.nd (sx_callC C_parting_of hr rfl (lenA_cons (lenA_cons lenA_nil)) (sa_cons (sx_var 0) (sa_cons (sx_var 1) sa_nil))))
  (ss_cons (ss_set 5 sc_folds_by.nd (sx_lst sa_nil))
  (ss_cons (ss_for rfl (si_rng1 rfl h_range (sx_var 2)) (sg_name 6 sc_folds_by.nd)
  (ss_cons (ss_setComp 7 rfl sc_folds_by.nd (si_seq (sx_var 1)) (own := [("number", 8)]) (blkB_ok (by kernel_rfl)) (by decide) (fun s H C cl fp => (sg_name 8 sc_folds_by.nd)) (fun s H C cl fp => spt_nil) (fun s H C cl fp => (sx_bin op_addA (add_ok _) (sx_var 8) (sx_bin op_mulA (mul_ok _) (sx_bin op_mulA (mul_ok _) (sx_var 6) (sx_var 3)) (sx_callTy call_int1 (int_ok _) rfl h_int boot_int (sa_cons (sx_cmp op_gt (ltG_ok _ _) (sx_var 8) (sx_var 4)) sa_nil))))))
  (ss_one (ss_expr (sx_mutL 5 PySem.F.plainAttrs_list PySem.F.slot_list_extend rfl mt_extendA (extend_ok _) (sa_cons (sx_callC C_round_copies hr rfl (lenA_cons (lenA_cons lenA_nil)) (sa_cons (sx_var 7) (sa_cons (sx_bin op_addA (add_ok _) (sx_bin op_mulA (mul_ok _) (sx_bin op_mulA (mul_ok _) sx_int (sx_var 3)) (sx_var 2)) sx_int) sa_nil))) sa_nil))))))
  (ss_one (ss_ret (sx_var 5))))))))
theorem sc_law : FnScope ["script", "cell", "pen", "kind", "web", "numbering", "size", "cut", "more", "numbers", "parted"] ["script"] (defScope s_law) := ⟨rfl, rfl, rfl, by decide +kernel, rfl, by decide +kernel, by decide +kernel⟩
theorem fn_law {P : Program} {w : World} {K : PySem.W.Frag} {mg : Str → Option Value} {base : Heap} {f : Addr} {fd : FuncData} (F : FunD K "law" "law" (defArgs s_law) (defBody s_law) (defScope s_law) [] [] f fd) (h_len : mg "len" = none) (C__law_cell_at : Callee P w K mg base 7 "_law_cell_at" 2 M__law_cell_at) (C__law_pen_of : Callee P w K mg base 7 "_law_pen_of" 1 M__law_pen_of) (C__law_kind_of_few : Callee P w K mg base 7 "_law_kind_of_few" 1 M__law_kind_of_few) (C_web_for : Callee P w K mg base 7 "web_for" 1 M_web_for) (C_steps_for : Callee P w K mg base 7 "steps_for" 1 M_steps_for) (C_cut_by : Callee P w K mg base 7 "cut_by" 2 M_cut_by) (C_cut_good : Callee P w K mg base 7 "cut_good" 3 M_cut_good) (C__law_each_pair : Callee P w K mg base 7 "_law_each_pair" 3 M__law_each_pair) (C_grown_above : Callee P w K mg base 7 "grown_above" 3 M_grown_above) (C_parted_for : Callee P w K mg base 7 "parted_for" 1 M_parted_for) (C_folds_by : Callee P w K mg base 7 "folds_by" 3 M_folds_by) :
    FnOk P w K mg base (L2.CX P w) 8 f fd ["script"] (spF K mg 1 M_law) :=
  fn_sound F sc_law fun cdv A outer s H E hr =>
  (ss_cons (ss_for rfl (si_seq (sx_bin op_addA (add_ok _) (sx_lst (sa_cons (sx_callC C__law_cell_at hr rfl (lenA_cons (lenA_cons lenA_nil)) (sa_cons (sx_var 0) (sa_cons sx_int sa_nil))) sa_nil)) (sx_slice (sx_var 0) (so_some sx_int) (so_some sx_int)))) (sg_name 1 sc_law.nd)
  (ss_cons (ss_set 2 sc_law.nd (sx_callC C__law_pen_of hr rfl (lenA_cons lenA_nil) (sa_cons (sx_var 1) sa_nil)))
  (ss_cons (ss_set 3 sc_law.nd (sx_callC C__law_kind_of_few hr rfl (lenA_cons lenA_nil) (sa_cons (sx_var 2) sa_nil)))
  (ss_cons (ss_set 4 sc_law.nd (sx_callC C_web_for hr rfl (lenA_cons lenA_nil) (sa_cons (sx_var 3) sa_nil)))
  (ss_cons (ss_set 5 sc_law.nd (sx_item (u65 hr) (sx_callC C_steps_for hr rfl (lenA_cons lenA_nil) (sa_cons (sx_var 3) sa_nil)) sx_int))
  (ss_cons (ss_set 6 sc_law.nd (sx_bin op_addA (add_ok _) (sx_bin op_mulA (mul_ok _) sx_int (sx_callB cr_lenA (len_ok _) rfl h_len boot_len (sa_cons (sx_item (u65 hr) (sx_var 4) sx_int) sa_nil))) sx_int))
  (ss_cons (ss_set 7 sc_law.nd (sx_callC C_cut_by hr rfl (lenA_cons (lenA_cons lenA_nil)) (sa_cons (sx_var 4) (sa_cons (sx_var 5) sa_nil))))
  (ss_cons (ss_if (st_w (sw_or (st_cmp op_isNotTr (isNotTr_ok _) (sx_callC C_cut_good hr rfl (lenA_cons (lenA_cons (lenA_cons lenA_nil))) (sa_cons (sx_var 4) (sa_cons (sx_var 6) (sa_cons (sx_var 7) sa_nil)))) sx_bl) (sw_or1 (st_cmp op_isNotTr (isNotTr_ok _) (sx_callC C_cut_good hr rfl (lenA_cons (lenA_cons (lenA_cons lenA_nil))) (sa_cons (sx_var 4) (sa_cons (sx_var 6) (sa_cons (sx_slice (sx_var 7) (so_some sx_int) so_none) sa_nil)))) sx_bl))))
  (ss_one (ss_ret sx_bl))
  ss_nil)
  (ss_cons (ss_if (st_not (st_val (sx_callC C__law_each_pair hr rfl (lenA_cons (lenA_cons (lenA_cons lenA_nil))) (sa_cons (sx_var 4) (sa_cons (sx_var 5) (sa_cons (sx_var 7) sa_nil))))))
  (ss_one (ss_ret sx_bl))
  ss_nil)
  (ss_cons (ss_unp (sx_callC C_grown_above hr rfl (lenA_cons (lenA_cons (lenA_cons lenA_nil))) (sa_cons (sx_var 4) (sa_cons (sx_var 5) (sa_cons sx_int sa_nil)))) (sg_tup rfl (sgs_cons (sg_name 8 sc_law.nd) (sgs_cons (sg_name 9 sc_law.nd) sgs_nil))))
  (ss_cons (ss_if (st_cmp op_isNotTr (isNotTr_ok _) (sx_callC C_cut_good hr rfl (lenA_cons (lenA_cons (lenA_cons lenA_nil))) (sa_cons (sx_var 8) (sa_cons (sx_bin op_addA (add_ok _) (sx_var 6) sx_int) (sa_cons (sx_callC C_cut_by hr rfl (lenA_cons (lenA_cons lenA_nil)) (sa_cons (sx_var 8) (sa_cons (sx_var 9) sa_nil))) sa_nil)))) sx_bl)
  (ss_one (ss_ret sx_bl))
  ss_nil)
  (ss_one (ss_if (st_cmp (op_neD (u64 hr)) (ne_ok _) (sx_item (u65 hr) (sx_var 3) sx_int) sx_str)
  (ss_cons (ss_set 10 sc_law.nd (sx_callC C_parted_for hr rfl (lenA_cons lenA_nil) (sa_cons (sx_var 3) sa_nil)))
  (ss_cons (ss_if (st_cmp (op_neD (u64 hr)) (ne_ok _) (sx_callC C_folds_by hr rfl (lenA_cons (lenA_cons (lenA_cons lenA_nil))) (sa_cons (sx_var 4) (sa_cons (sx_var 10) (sa_cons sx_int sa_nil)))) (sx_callC C_cut_by hr rfl (lenA_cons (lenA_cons lenA_nil)) (sa_cons (sx_var 4) (sa_cons (sx_var 10) sa_nil))))
  (ss_one (ss_ret sx_bl))
  ss_nil)
  (ss_one (ss_if (st_cmp op_isNotTr (isNotTr_ok _) (sx_callC C_cut_good hr rfl (lenA_cons (lenA_cons (lenA_cons lenA_nil))) (sa_cons (sx_var 4) (sa_cons (sx_bin op_sub (sub_ok _) (sx_bin op_mulA (mul_ok _) sx_int (sx_var 6)) sx_int) (sa_cons (sx_callC C_folds_by hr rfl (lenA_cons (lenA_cons (lenA_cons lenA_nil))) (sa_cons (sx_var 4) (sa_cons (sx_var 10) (sa_cons sx_int sa_nil)))) sa_nil)))) sx_bl)
  (ss_one (ss_ret sx_bl))
  ss_nil))))
  ss_nil)))))))))))))
  (ss_one (ss_ret sx_bl)))
end K74
namespace K74
open PySem PySem.Spec PyProof.Rows L2 TN
theorem ob_eq (s : PySem.W.SharedT) : ob s = hk.obs s.abs := obsZ_eq (HandSHeadRun.getT_eq s)
theorem facts {P : Program} {w : World} {K : PySem.W.Frag} {h : Heap} {mg : Str → Option Value} {f : Addr} (X : K.In h) (G : h.Ns mainGlobals mg) (hfa : mg ("law" : Str) = some (.ref f)) (c : He.SaysD fas fns K) (cx : exAll XS K = true) (co : oxAll RS K = true) (ct : tabObs TS K = tabVal TS w) :
    ∃ fd : FuncData, (∀ (s : Shared) (u : Value), BindsTo s fd ⟨[u], []⟩ [("script", u)]) ∧ ∀ base : Heap, K.In base → base.Ns mainGlobals mg → FnOk P w K mg base (L2.CX P w) 8 f fd ["script"] (spF K mg 1 M_law) := by
  obtain ⟨fd__law_cell_at, F__law_cell_at⟩ := c.def_ 0 (d := d__law_cell_at) rfl
  obtain ⟨fd__law_pen_of, F__law_pen_of⟩ := c.def_ 1 (d := d__law_pen_of) rfl
  obtain ⟨fd__law_next, F__law_next⟩ := c.def_ 2 (d := d__law_next) rfl
  obtain ⟨fd__law_draw, F__law_draw⟩ := c.def_ 3 (d := d__law_draw) rfl
  obtain ⟨fd__law_kind_of_few, F__law_kind_of_few⟩ := c.def_ 4 (d := d__law_kind_of_few) rfl
  obtain ⟨fd_is_whole, F_is_whole⟩ := c.def_ 5 (d := d_is_whole) rfl
  obtain ⟨fd_legs_good, F_legs_good⟩ := c.def_ 6 (d := d_legs_good) rfl
  obtain ⟨fd_kind_form, F_kind_form⟩ := c.def_ 7 (d := d_kind_form) rfl
  obtain ⟨fd_spine_ties, F_spine_ties⟩ := c.def_ 8 (d := d_spine_ties) rfl
  obtain ⟨fd_row_ties, F_row_ties⟩ := c.def_ 9 (d := d_row_ties) rfl
  obtain ⟨fd_kind_ties, F_kind_ties⟩ := c.def_ 10 (d := d_kind_ties) rfl
  obtain ⟨fd_kind_good, F_kind_good⟩ := c.def_ 11 (d := d_kind_good) rfl
  obtain ⟨fd_web_for, F_web_for⟩ := c.def_ 12 (d := d_web_for) rfl
  obtain ⟨fd_check_made, F_check_made⟩ := c.def_ 13 (d := d_check_made) rfl
  obtain ⟨fd_spine_steps, F_spine_steps⟩ := c.def_ 14 (d := d_spine_steps) rfl
  obtain ⟨fd_sides_steps, F_sides_steps⟩ := c.def_ 15 (d := d_sides_steps) rfl
  obtain ⟨fd_ring_steps, F_ring_steps⟩ := c.def_ 16 (d := d_ring_steps) rfl
  obtain ⟨fd_steps_for, F_steps_for⟩ := c.def_ 17 (d := d_steps_for) rfl
  obtain ⟨fd_check_folded, F_check_folded⟩ := c.def_ 18 (d := d_check_folded) rfl
  obtain ⟨fd_round_copies, F_round_copies⟩ := c.def_ 19 (d := d_round_copies) rfl
  obtain ⟨fd_cut_by, F_cut_by⟩ := c.def_ 20 (d := d_cut_by) rfl
  obtain ⟨fd_copy_good, F_copy_good⟩ := c.def_ 21 (d := d_copy_good) rfl
  obtain ⟨fd_copy_ties, F_copy_ties⟩ := c.def_ 22 (d := d_copy_ties) rfl
  obtain ⟨fd_cut_good, F_cut_good⟩ := c.def_ 23 (d := d_cut_good) rfl
  obtain ⟨fd_found_in, F_found_in⟩ := c.def_ 24 (d := d_found_in) rfl
  obtain ⟨fd__law_each_pair, F__law_each_pair⟩ := c.def_ 25 (d := d__law_each_pair) rfl
  obtain ⟨fd_grown_web, F_grown_web⟩ := c.def_ 26 (d := d_grown_web) rfl
  obtain ⟨fd_grown_above, F_grown_above⟩ := c.def_ 27 (d := d_grown_above) rfl
  obtain ⟨fd_parted_for, F_parted_for⟩ := c.def_ 28 (d := d_parted_for) rfl
  obtain ⟨fd_parting_of, F_parting_of⟩ := c.def_ 29 (d := d_parting_of) rfl
  obtain ⟨fd_folds_by, F_folds_by⟩ := c.def_ 30 (d := d_folds_by) rfl
  obtain ⟨fd_law, F_law⟩ := c.def_ 31 (d := d_law) rfl
  obtain ⟨fd_I_TooGreat, F_I_TooGreat⟩ := c.def_ 32 (d := d_I_TooGreat) rfl
  obtain ⟨fd_I_NoWeb, F_I_NoWeb⟩ := c.def_ 33 (d := d_I_NoWeb) rfl
  have g__law_cell_at := He.glo_ok X G (c.fact 0 (f := .glo "_law_cell_at") rfl)
  have g__law_pen_of := He.glo_ok X G (c.fact 1 (f := .glo "_law_pen_of") rfl)
  have g__law_next := He.glo_ok X G (c.fact 2 (f := .glo "_law_next") rfl)
  have g__law_draw := He.glo_ok X G (c.fact 3 (f := .glo "_law_draw") rfl)
  have g__law_kind_of_few := He.glo_ok X G (c.fact 4 (f := .glo "_law_kind_of_few") rfl)
  have g_is_whole := He.glo_ok X G (c.fact 5 (f := .glo "is_whole") rfl)
  have g_legs_good := He.glo_ok X G (c.fact 6 (f := .glo "legs_good") rfl)
  have g_kind_form := He.glo_ok X G (c.fact 7 (f := .glo "kind_form") rfl)
  have g_spine_ties := He.glo_ok X G (c.fact 8 (f := .glo "spine_ties") rfl)
  have g_row_ties := He.glo_ok X G (c.fact 9 (f := .glo "row_ties") rfl)
  have g_kind_ties := He.glo_ok X G (c.fact 10 (f := .glo "kind_ties") rfl)
  have g_kind_good := He.glo_ok X G (c.fact 11 (f := .glo "kind_good") rfl)
  have g_web_for := He.glo_ok X G (c.fact 12 (f := .glo "web_for") rfl)
  have g_check_made := He.glo_ok X G (c.fact 13 (f := .glo "check_made") rfl)
  have g_spine_steps := He.glo_ok X G (c.fact 14 (f := .glo "spine_steps") rfl)
  have g_sides_steps := He.glo_ok X G (c.fact 15 (f := .glo "sides_steps") rfl)
  have g_ring_steps := He.glo_ok X G (c.fact 16 (f := .glo "ring_steps") rfl)
  have g_steps_for := He.glo_ok X G (c.fact 17 (f := .glo "steps_for") rfl)
  have g_check_folded := He.glo_ok X G (c.fact 18 (f := .glo "check_folded") rfl)
  have g_round_copies := He.glo_ok X G (c.fact 19 (f := .glo "round_copies") rfl)
  have g_cut_by := He.glo_ok X G (c.fact 20 (f := .glo "cut_by") rfl)
  have g_copy_good := He.glo_ok X G (c.fact 21 (f := .glo "copy_good") rfl)
  have g_copy_ties := He.glo_ok X G (c.fact 22 (f := .glo "copy_ties") rfl)
  have g_cut_good := He.glo_ok X G (c.fact 23 (f := .glo "cut_good") rfl)
  have g_found_in := He.glo_ok X G (c.fact 24 (f := .glo "found_in") rfl)
  have g__law_each_pair := He.glo_ok X G (c.fact 25 (f := .glo "_law_each_pair") rfl)
  have g_grown_web := He.glo_ok X G (c.fact 26 (f := .glo "grown_web") rfl)
  have g_grown_above := He.glo_ok X G (c.fact 27 (f := .glo "grown_above") rfl)
  have g_parted_for := He.glo_ok X G (c.fact 28 (f := .glo "parted_for") rfl)
  have g_parting_of := He.glo_ok X G (c.fact 29 (f := .glo "parting_of") rfl)
  have g_folds_by := He.glo_ok X G (c.fact 30 (f := .glo "folds_by") rfl)
  have g_law := He.glo_ok X G (c.fact 31 (f := .glo "law") rfl)
  have h_len := He.free_ok X G (c.fact 32 (f := .free "len") rfl)
  have h_max := He.free_ok X G (c.fact 33 (f := .free "max") rfl)
  have h_int := He.free_ok X G (c.fact 34 (f := .free "int") rfl)
  have h_range := He.free_ok X G (c.fact 35 (f := .free "range") rfl)
  have h_tuple := He.free_ok X G (c.fact 36 (f := .free "tuple") rfl)
  have h_isinstance := He.free_ok X G (c.fact 37 (f := .free "isinstance") rfl)
  have h_bool := He.free_ok X G (c.fact 38 (f := .free "bool") rfl)
  have i_MOST_PLACES := He.int_ok X G (c.fact 39 (f := .int "MOST_PLACES" (40)) rfl)
  have h_all := He.free_ok X G (c.fact 40 (f := .free "all") rfl)
  have h_sum := He.free_ok X G (c.fact 41 (f := .free "sum") rfl)
  have h_str := He.free_ok X G (c.fact 42 (f := .free "str") rfl)
  have k_LEAST := kc_of (x := "LEAST") (es := [("ring", 3), ("full", 1), ("wheel", 3), ("fan", 1)]) X G ct (by decide)
  have h_enumerate := He.free_ok X G (c.fact 43 (f := .free "enumerate") rfl)
  have i_MOST_TIES := He.int_ok X G (c.fact 44 (f := .int "MOST_TIES" (60)) rfl)
  have EX := exS_of X G cx
  have x_NoKind := c.fact 45 (f := .exc "NoKind") rfl
  have h_sorted := He.free_ok X G (c.fact 46 (f := .free "sorted") rfl)
  have h_list := He.free_ok X G (c.fact 47 (f := .free "list") rfl)
  have i_MOST_FOLDED := He.int_ok X G (c.fact 48 (f := .int "MOST_FOLDED" (30)) rfl)
  have OX := co
  have h_set := He.free_ok X G (c.fact 49 (f := .free "set") rfl)
  have h_min := He.free_ok X G (c.fact 50 (f := .free "min") rfl)
  have x_NoPlace := c.fact 51 (f := .exc "NoPlace") rfl
  have h_abs := He.free_ok X G (c.fact 52 (f := .free "abs") rfl)
  have e := hfa.symm.trans g_law
  cases e
  refine ⟨fd_law, fun s v => FunD.bindsA (ps := ["script"]) F_law (fun _ _ _ _ _ _ us hl => match us, hl with | [_], _ => rfl) s [v] rfl, fun base _ _ => ?_⟩
  have RA_TooGreat := ra_TooGreat (P := P) (w := w) (mg := mg) (base := base) F_I_TooGreat co (EX.all "TooGreat" (by decide)).glo
  have RA_NoWeb := ra_NoWeb (P := P) (w := w) (mg := mg) (base := base) F_I_NoWeb co (EX.all "NoWeb" (by decide)).glo
  have C__law_cell_at := ok__law_cell_at (P := P) (w := w) (base := base) F__law_cell_at g__law_cell_at h_len
  have C__law_pen_of := ok__law_pen_of (P := P) (w := w) (base := base) F__law_pen_of g__law_pen_of h_max h_int
  have C__law_next := ok__law_next (P := P) (w := w) (base := base) F__law_next g__law_next
  have C__law_draw := ok__law_draw (P := P) (w := w) (base := base) F__law_draw g__law_draw (C__law_next.up (by decide))
  have C__law_kind_of_few := ok__law_kind_of_few (P := P) (w := w) (base := base) F__law_kind_of_few g__law_kind_of_few h_range h_tuple (C__law_draw.up (by decide))
  have C_is_whole := ok_is_whole (P := P) (w := w) (base := base) F_is_whole g_is_whole h_isinstance h_int h_bool
  have C_legs_good := ok_legs_good (P := P) (w := w) (base := base) F_legs_good g_legs_good h_isinstance h_tuple h_len i_MOST_PLACES h_all h_sum (C_is_whole.up (by decide))
  have C_kind_form := ok_kind_form (P := P) (w := w) (base := base) F_kind_form g_kind_form h_isinstance h_tuple h_len h_str i_MOST_PLACES h_all k_LEAST (C_legs_good.up (by decide)) (C_is_whole.up (by decide))
  have C_spine_ties := ok_spine_ties (P := P) (w := w) (base := base) F_spine_ties g_spine_ties h_len h_range h_enumerate
  have C_row_ties := ok_row_ties (P := P) (w := w) (base := base) F_row_ties g_row_ties h_range
  have C_kind_ties := ok_kind_ties (P := P) (w := w) (base := base) F_kind_ties g_kind_ties h_range (C_spine_ties.up (by decide)) (C_row_ties.up (by decide))
  have C_kind_good := ok_kind_good (P := P) (w := w) (base := base) F_kind_good g_kind_good i_MOST_PLACES h_len i_MOST_TIES (C_kind_form.up (by decide)) (C_kind_ties.up (by decide))
  have C_web_for := ok_web_for (P := P) (w := w) (base := base) F_web_for g_web_for EX x_NoKind h_sorted h_tuple (C_kind_good.up (by decide)) (C_kind_ties.up (by decide))
  have C_check_made := ok_check_made (P := P) (w := w) (base := base) F_check_made g_check_made EX x_NoKind (C_kind_good.up (by decide))
  have C_spine_steps := ok_spine_steps (P := P) (w := w) (base := base) F_spine_steps g_spine_steps h_len h_sum h_enumerate h_range h_tuple
  have C_sides_steps := ok_sides_steps (P := P) (w := w) (base := base) F_sides_steps g_sides_steps h_range h_list h_tuple
  have C_ring_steps := ok_ring_steps (P := P) (w := w) (base := base) F_ring_steps g_ring_steps h_range h_tuple
  have C_steps_for := ok_steps_for (P := P) (w := w) (base := base) F_steps_for g_steps_for (C_check_made.up (by decide)) (C_spine_steps.up (by decide)) (C_sides_steps.up (by decide)) (C_ring_steps.up (by decide))
  have C_check_folded := ok_check_folded (P := P) (w := w) (base := base) F_check_folded g_check_folded i_MOST_FOLDED EX OX (RA_TooGreat.up (by decide))
  have C_round_copies := ok_round_copies (P := P) (w := w) (base := base) F_round_copies g_round_copies h_range h_tuple
  have C_cut_by := ok_cut_by (P := P) (w := w) (base := base) F_cut_by g_cut_by h_len (C_check_folded.up (by decide)) (C_round_copies.up (by decide))
  have C_copy_good := ok_copy_good (P := P) (w := w) (base := base) F_copy_good g_copy_good h_isinstance h_tuple h_len h_all h_set (C_is_whole.up (by decide))
  have C_copy_ties := ok_copy_ties (P := P) (w := w) (base := base) F_copy_ties g_copy_ties h_min h_max
  have C_cut_good := ok_cut_good (P := P) (w := w) (base := base) F_cut_good g_cut_good h_isinstance h_list h_all h_len (C_copy_good.up (by decide)) (C_copy_ties.up (by decide))
  have C_found_in := ok_found_in (P := P) (w := w) (base := base) F_found_in g_found_in h_len EX x_NoPlace h_enumerate h_min h_abs (C_check_folded.up (by decide)) (C_is_whole.up (by decide))
  have C__law_each_pair := ok__law_each_pair (P := P) (w := w) (base := base) F__law_each_pair g__law_each_pair h_len h_range h_sorted (C_found_in.up (by decide))
  have C_grown_web := ok_grown_web (P := P) (w := w) (base := base) F_grown_web g_grown_web i_MOST_PLACES i_MOST_TIES h_len h_min EX OX h_range h_tuple h_sorted (RA_NoWeb.up (by decide))
  have C_grown_above := ok_grown_above (P := P) (w := w) (base := base) F_grown_above g_grown_above h_len h_tuple h_range (C_grown_web.up (by decide))
  have C_parted_for := ok_parted_for (P := P) (w := w) (base := base) F_parted_for g_parted_for EX x_NoKind (C_check_made.up (by decide)) (C_web_for.up (by decide)) (C_steps_for.up (by decide))
  have C_parting_of := ok_parting_of (P := P) (w := w) (base := base) F_parting_of g_parting_of h_abs h_min
  have C_folds_by := ok_folds_by (P := P) (w := w) (base := base) F_folds_by g_folds_by h_len h_range h_int (C_check_folded.up (by decide)) (C_parting_of.up (by decide)) (C_round_copies.up (by decide))
  exact fn_law F_law h_len (C__law_cell_at.up (by decide)) (C__law_pen_of.up (by decide)) (C__law_kind_of_few.up (by decide)) (C_web_for.up (by decide)) (C_steps_for.up (by decide)) (C_cut_by.up (by decide)) (C_cut_good.up (by decide)) (C__law_each_pair.up (by decide)) (C_grown_above.up (by decide)) (C_parted_for.up (by decide)) (C_folds_by.up (by decide))
end K74
open PySem PySem.W PySem.Calls PyProof.Rows
theorem PySem.Challenge.cw_tienumbers_k74_whole_cuts_and_places_holds : PySem.Challenge.rw_tienumbers_k74_whole_cuts_and_places.Holds := by
  w_on; o_law
  refine HandSHeadRun.head_any (r := OpenLaw.row PySem.Challenge.rw_tienumbers_k74_whole_cuts_and_places) (q := view (OpenLaw.row PySem.Challenge.rw_tienumbers_k74_whole_cuts_and_places).prog [47]) (H := K74.hk) (ob := K74.ob) (M := 6000) (loose := (("TieError" : Str) :: "NoWeb" :: "NoPlace" :: "NoKind" :: "TooGreat" :: "MOST_PLACES" :: "MOST_TIES" :: "is_whole" :: "LEAST" :: "legs_good" :: "kind_form" :: "spine_ties" :: "row_ties" :: "kind_ties" :: "kind_good" :: "web_for" :: "spine_steps" :: "sides_steps" :: "ring_steps" :: "check_made" :: "steps_for" :: "parted_for" :: "grown_web" :: "grown_above" :: "parting_of" :: "MOST_FOLDED" :: "copy_good" :: "copy_ties" :: "cut_good" :: "check_folded" :: "round_copies" :: "cut_by" :: "folds_by" :: "found_in" :: "_law_cell_at" :: "_law_next" :: "_law_pen_of" :: "_law_draw" :: "_law_kind_of_few" :: "_law_each_pair" :: [])) (d := HandSHeadRun.topDef (OpenLaw.row PySem.Challenge.rw_tienumbers_k74_whole_cuts_and_places).prog 47) (kwd := []) K74.ob_eq
    (by kernel_rfl) (fun s => by kernel_rfl) K74.run (by kernel_rfl) (by kernel_rfl) (by kernel_rfl) (by rfl) (by first | assumption | decide +kernel) (by decide +kernel) ⟨rfl, rfl, rfl, rfl, rfl, by decide +kernel⟩ ?hw ?hc
  case hw => w_witness2
  case hc =>
    exact TN.law_endZ (l := PySem.Challenge.rw_tienumbers_k74_whole_cuts_and_places) (k := 8) (x := "script") (M := K74.M_law) rfl (by kernel_rfl) (by kernel_rfl) ⟨rfl, by decide, by decide⟩ (fun w K mg f h X G hf c cx co ct => K74.facts X G hf c cx co ct) K74.law_true

