import PyProof.Rows.All
import Wide.All
import OpenK.AllK
import Wide.FinOn
import HandS.ForMost
import HandS.ForExc
import HandS.Deep
import HandS.TupAny
import HandS.TupLe
import HandS.TupMul
import HandS.Conv
import HandS.Zip
import HandS.Rev
import HandS.Strs
import HandS.Style
import HandS.Wide
import HandS.WideMore
import HandS.Flow
import HandS.Head0
import HandS.Head1
import HandS.Head2
import HandS.Defaults
import HandS.HeadEnd
import HandS.HeadHook1
import HandS.HeadHook2
import HandS.Small
import HandS.StrMore
import HandS.StrSplit
import KE.SortData
import KE.KIndexOf
import HandS.Dict
import HandS.TupLen
import HandS.WordsDict
import HandS.IsInst
import HandS.SetFor
import KE.GoesRev
import KE.DataMinMax
import KE.GoesMore
import HandS.Flt
import HandS.ExcOwn
import HandS.ExcIs
import HandS.HotCalls
import HandS.RaiseMore
import HandS.ExcInit
import HandS.ExcField
import HandS.TryOnly
import HandS.More
import HandS.HeadHook3
import HandS.Text
import PyProof.FactsAll.set_1
import HandS.TupSets
import PyProof.IsiTupleOf
import KE.KDictList
import PyProof.StrBlock2
import PySem.Challenge.RW_tienumbers_k68_whole_no_bar_and_unlike
set_option Elab.async false
set_option linter.all false
set_option maxRecDepth 100000
set_option maxHeartbeats 4000000
set_option autoImplicit false
section
namespace TN
open PySem PySem.Spec PyProof.Rows L2
abbrev D := PyData
def keyD : Key → D
  | .inl i => .int i
  | .inr s => .str s
def tkD (ks : List Key) : D := .tuple (ks.map keyD)
/-! a caught exception, as data: its class's name, its fields -/
def exHO (a : Addr) (oe : Obj) : HO := .ext fun h => h.get? a = some oe
/-- what an exception's class must say, so that its instances are asked rightly -/
def exC (K : PySem.W.Frag) (C : Addr) : Bool := decide (PySem.W.findIn K (.ref C) "__getattribute__" = some (some (.builtin "BaseException.__getattribute__"))) && (decide (PySem.W.findIn K (.ref C) "__getattr__" = some none) && (decide (PySem.W.subIn K (.ref C) (.type "BaseException") = some true) &&
  (PySem.W.hasDictIn K C && (decide (PySem.W.findIn K (.ref C) "__class__" = some (some (.builtin "object.__class__"))) && (decide (PySem.W.specialIn K (.builtin "object.__class__") "__get__" = some (some (.builtin "getset_descriptor.__get__"))) &&
  (decide (PySem.W.takesIn K (.builtin "object.__class__") = some true) && decide (PySem.W.mroIn K C (.type "object") = some true)))))))
def exTy : List String := ["bool", "int", "str", "list", "tuple"]
def exT (K : PySem.W.Frag) (C : Addr) : Bool := exTy.all fun T => decide (PySem.W.kitOne K (.ref C) (.type T) = some false)
def ExO (K : PySem.W.Frag) (cls : Str) (d : Option Addr) (oe : Obj) : Prop := oe.cls = .ref (He.ga K cls) ∧ oe.dict = d ∧ (∃ vs, oe.data = .fields vs) ∧ exC K (He.ga K cls) = true ∧ exT K (He.ga K cls) = true
def exD (cls : Str) (ds : List (Str × D)) : D := .dict ((.bool true, .str cls) :: ds.map fun p => (.str p.1, p.2))
/-- an object of an own class, as data -/
def obD (cls : Str) (ds : List (Str × D)) : D := .dict ((.bool false, .str cls) :: ds.map fun p => (.str p.1, p.2))
/-- what an own class must say -/
structure ObK (K : PySem.W.Frag) (C : Addr) : Prop where
  cl : Cls K C
  ha : PySem.W.findIn K (.ref C) "__class__" = some (some (.builtin "object.__class__"))
  hn : PySem.W.specialIn K (.builtin "object.__class__") "__get__" = some (some (.builtin "getset_descriptor.__get__"))
  htk : PySem.W.takesIn K (.builtin "object.__class__") = some true
  hm : PySem.W.mroIn K C (.type "object") = some true
  et : exT K C = true
/-- rows of a dict whose keys are tuples of whole numbers: a key, its address, the value -/
abbrev RowT := List Key × Addr × V
abbrev PRT : List RowT → List (List Key × Addr × Value) → Prop := Paired fun p q => p.1 = q.1 ∧ p.2.1 = q.2.1 ∧ RelV p.2.2 q.2.2
def RawT (a : Addr) (rs : List RowT) (h : Heap) : Prop := rs.length ≤ sizeLine ∧ (a == sysModules) = false ∧ (∀ r ∈ rs, ∀ k ∈ r.1, ∃ i : Int, k = .inl i) ∧
  ∃ (P : Program) (w : World) (xs : List (List Key × Addr × Value)), PRT rs xs ∧ ∃ o es ep, h.get? a = some o ∧ o.ExactDict ∧ o.data = .dict es ep ∧ es.toList = xs.map (entryOfKey (tupleKind (mixKind P w))) ∧ (xs.map (·.1)).Nodup
abbrev dtO (a : Addr) (rs : List RowT) : HO := .ext (RawT a rs)
/-- a tuple that has no dict of its own -/
def Kt (G : Hp) (a : Addr) (xs : List V) : Prop := ∃ o : Obj, G a = some (.frz o (.tup xs)) ∧ o.dict = none
mutual
inductive Fz (K : PySem.W.Frag) (G : Hp) : V → D → Prop
  | non : Fz K G .non .none
  | bl (b : Bool) : Fz K G (.bl b) (.bool b)
  | int (i : Int) : Fz K G (.int i) (.int i)
  | str (x : Str) : Fz K G (.str x) (.str x)
  | lst {a : Addr} {xs : List V} {ds : List D} : Rd G a (.lst xs) → FzA K G xs ds → Fz K G (.ref a) (.list ds)
  | tup {a : Addr} {xs : List V} {ds : List D} : Kt G a xs → FzA K G xs ds → Fz K G (.ref a) (.tuple ds)
  | dK {a : Addr} {kvs : List (Key × V)} {es : List (D × D)} : G a = some (.dK kvs) → FzK K G kvs es → Fz K G (.ref a) (.dict es)
  | dT {a : Addr} {kvs : List RowT} {es : List (D × D)} : G a = some (dtO a kvs) → FzT K G kvs es → Fz K G (.ref a) (.dict ((.none, .none) :: es))
  | ex {a : Addr} {oe : Obj} {cls : Str} {d : Option Addr} {fs : List (Str × V)} {ds : List (Str × D)} : G a = some (exHO a oe) → ExO K cls d oe → (∀ dd, d = some dd → G dd = some (.xd fs)) → (d = none → ds = []) → FzN K G fs ds → Fz K G (.ref a) (exD cls ds)
  | ob {a dx : Addr} {cls : Str} {fs : List (Str × V)} {ds : List (Str × D)} : G a = some (.ins (He.ga K cls) dx fs) → ObK K (He.ga K cls) → FzN K G fs ds → Fz K G (.ref a) (obD cls ds)
inductive FzA (K : PySem.W.Frag) (G : Hp) : List V → List D → Prop
  | nil : FzA K G [] []
  | cons {v : V} {vs : List V} {d : D} {ds : List D} : Fz K G v d → FzA K G vs ds → FzA K G (v :: vs) (d :: ds)
inductive FzK (K : PySem.W.Frag) (G : Hp) : List (Key × V) → List (D × D) → Prop
  | nil : FzK K G [] []
  | cons {k : Key} {v : V} {vs : List (Key × V)} {d : D} {ds : List (D × D)} : Fz K G v d → FzK K G vs ds → FzK K G ((k, v) :: vs) ((keyD k, d) :: ds)
inductive FzT (K : PySem.W.Frag) (G : Hp) : List RowT → List (D × D) → Prop
  | nil : FzT K G [] []
  | cons {k : List Key} {b : Addr} {v : V} {vs : List RowT} {d : D} {ds : List (D × D)} : (∀ x ∈ k, ∃ i : Int, x = .inl i) → Kt G b (k.map kV) → Fz K G v d → FzT K G vs ds → FzT K G ((k, b, v) :: vs) ((tkD k, d) :: ds)
/-- the fields of an exception, in its own dict -/
inductive FzN (K : PySem.W.Frag) (G : Hp) : List (Str × V) → List (Str × D) → Prop
  | nil : FzN K G [] []
  | cons {f : Str} {v : V} {d : D} {vs : List (Str × V)} {ds : List (Str × D)} : Fz K G v d → FzN K G vs ds → FzN K G ((f, v) :: vs) ((f, d) :: ds)
end
theorem Same.rd {H H' : Hp} {a : Addr} {o : HO} (e : Same H H') (h : Rd H a o) : Rd H' a o := by
  rcases h with h | ⟨u, h⟩
  · exact .inl (e _ _ h)
  · exact .inr ⟨u, e _ _ h⟩
theorem sqt {K : PySem.W.Frag} {G : Hp} {a : Addr} {xs : List V} (h : Kt G a xs) : SqT K G a xs := let ⟨o, e, _⟩ := h; .inl (.inr ⟨o, e⟩)
theorem Kt.mono {H H2 : Hp} {a : Addr} {xs : List V} (e : Same H H2) (h : Kt H a xs) : Kt H2 a xs := let ⟨o, x, y⟩ := h; ⟨o, e _ _ x, y⟩
theorem Same.tp {K : PySem.W.Frag} {H H' : Hp} {a : Addr} {xs : List V} (e : Same H H') (h : SqT K H a xs) : SqT K H' a xs := by
  rcases h with (h | ⟨o, h⟩) | h
  · exact .inl (.inl (e _ _ h))
  · exact .inl (.inr ⟨o, e _ _ h⟩)
  · exact .inr h
section
variable {K : PySem.W.Frag} {G G' : Hp}
theorem Fz.mono (s : Same G G') : ∀ {v : V} {d : D}, Fz K G v d → Fz K G' v d := fun h =>
  Fz.rec (motive_1 := fun v d _ => Fz K G' v d) (motive_2 := fun v d _ => FzA K G' v d) (motive_3 := fun v d _ => FzK K G' v d) (motive_4 := fun v d _ => FzT K G' v d) (motive_5 := fun v d _ => FzN K G' v d)
    .non .bl .int .str (fun h _ i => .lst (Same.rd s h) i) (fun h _ i => .tup (h.mono s) i) (fun h _ i => .dK (s _ _ h) i) (fun h _ i => .dT (s _ _ h) i) (fun h o hd hn _ i => .ex (s _ _ h) o (fun dd e => s _ _ (hd dd e)) hn i) (fun h o _ i => .ob (s _ _ h) o i)
    .nil (fun _ _ a b => .cons a b) .nil (fun _ _ a b => .cons a b) .nil (fun hi hk _ _ a b => .cons hi (hk.mono s) a b) .nil (fun _ _ a b => .cons a b) h
end
/-! ### lists of data -/
section
variable {K : PySem.W.Frag} {G G' H H' : Hp}
theorem FzA.mono (s : Same G G') : ∀ {vs : List V} {ds : List D}, FzA K G vs ds → FzA K G' vs ds
  | _, _, .nil => .nil
  | _, _, .cons a b => .cons (a.mono s) (b.mono s)
theorem FzK.mono (s : Same G G') : ∀ {vs : List (Key × V)} {ds : List (D × D)}, FzK K G vs ds → FzK K G' vs ds
  | _, _, .nil => .nil
  | _, _, .cons a b => .cons (a.mono s) (b.mono s)
theorem FzT.mono (s : Same G G') : ∀ {vs : List RowT} {ds : List (D × D)}, FzT K G vs ds → FzT K G' vs ds
  | _, _, .nil => .nil
  | _, _, .cons hi hk a b => .cons hi (hk.mono s) (a.mono s) (b.mono s)
theorem FzN.mono (s : Same G G') : ∀ {vs : List (Str × V)} {ds : List (Str × D)}, FzN K G vs ds → FzN K G' vs ds
  | _, _, .nil => .nil
  | _, _, .cons a b => .cons (a.mono s) (b.mono s)
theorem FzA.length : ∀ {vs : List V} {ds : List D}, FzA K G vs ds → vs.length = ds.length
  | _, _, .nil => rfl
  | _, _, .cons _ b => by simp [b.length]
theorem FzA.set : ∀ {vs : List V} {ds : List D} (i : Nat) {v : V} {d : D}, FzA K G vs ds → Fz K G v d → FzA K G (vs.set i v) (ds.set i d)
  | _, _, _, _, _, .nil, _ => .nil
  | _, _, 0, _, _, .cons _ b, h => .cons h b
  | _, _, i + 1, _, _, .cons a b, h => .cons a (b.set i h)
end

/-! ### modes, slots, places -/
/-- fz: frozen; own: a list or dict of this frame's own; lent: a caller's; lz: a caller's, frozen here -/
inductive Md where
  | fz | own | lent | lz
  deriving DecidableEq
abbrev Slot := Option (D × Md)
abbrev Rho := List Slot
/-- an exception: its class's name, its fields -/
structure Xc where
  cls : Str
  flds : List (Str × D)
/-- what an expression gives: a frozen value, a name's own list, a new list -/
inductive Pl where
  | val (d : D) | slot (i : Nat) | tmp (d : D)
inductive R (α : Type) where
  | ok (a : α) (ρ : Rho) | exc (x : Xc) (ρ : Rho) | bad
def Md.isFz : Md → Bool
  | .fz => true
  | .lz => true
  | _ => false
/-- the value is kept somewhere: a name's own list is frozen -/
def frz (p : Pl) (ρ : Rho) : Option (D × Rho) := match p with
  | .val d => some (d, ρ)
  | .tmp d => some (d, ρ)
  | .slot i => match ρ[i]? with
    | some (some (d, .own)) => some (d, ρ.set i (some (d, .fz)))
    | some (some (d, .lent)) => some (d, ρ.set i (some (d, .lz)))
    | some (some (d, _)) => some (d, ρ)
    | _ => none

/-! ### the state -/
section
variable (K : PySem.W.Frag) (G H B : Hp)
inductive Cont (a : Addr) : D → Prop
  | lst {xs : List V} {ds : List D} : H a = some (.lst xs) → FzA K G xs ds → Cont a (.list ds)
  | dK {kvs : List (Key × V)} {es : List (D × D)} : H a = some (.dK kvs) → FzK K G kvs es → Cont a (.dict es)
  | dT {kvs : List RowT} {es : List (D × D)} : H a = some (dtO a kvs) → FzT K G kvs es → Cont a (.dict ((.none, .none) :: es))
  | ob {dx : Addr} {cls : Str} {fs : List (Str × V)} {ds : List (Str × D)} : H a = some (.ins (He.ga K cls) dx fs) → ObK K (He.ga K cls) → FzN K G fs ds → Cont a (obD cls ds)
/-- a value that is looked at -/
def Vw (v : V) (d : D) : Prop := Fz K G v d ∨ ∃ a, v = .ref a ∧ Cont K G H a d
def SlotOk (v : V) : D × Md → Prop
  | (d, .fz) => Fz K G v d
  | (d, .lz) => Fz K G v d
  | (d, _) => ∃ a, v = .ref a ∧ G a = none ∧ B a = none ∧ Cont K G H a d
end
/-- L: the lent parameters' values; B: what stood at the entry but for what is lent; G: what is frozen -/
structure Rel (K : PySem.W.Frag) (L : L2.St) (B : Hp) (σ : L2.St) (ρ : Rho) (G H : Hp) : Prop where
  sub : Same G H
  base : Same B H
  len : ρ.length = σ.length
  slots : ∀ (i : Nat) (p : D × Md), ρ[i]? = some (some p) → ∃ v, σ[i]? = some (some v) ∧ SlotOk K G H B v p
  sep : ∀ (i j : Nat) (p q : D × Md) (v : V), i ≠ j → ρ[i]? = some (some p) → ρ[j]? = some (some q) → p.2.isFz = false → q.2.isFz = false → σ[i]? = some (some v) → σ[j]? ≠ some (some v)
  lent : ∀ (j : Nat) (v : V), L[j]? = some (some v) → σ[j]? = some (some v) ∧ ∃ (d : D) (m : Md), ρ[j]? = some (some (d, m)) ∧ (m = .lent ∨ m = .lz)
/-- G has grown, by what B doesn't hold -/
structure Ext (B G G' : Hp) : Prop where
  same : Same G G'
  new : ∀ b, G' b ≠ none → G b ≠ none ∨ B b = none ∨ ∃ vs, G' b = some (.tup vs)
theorem Ext.refl {B G : Hp} : Ext B G G := ⟨Same.refl _, fun _ h => .inl h⟩
theorem Ext.trans {B G G1 G2 : Hp} (a : Ext B G G1) (b : Ext B G1 G2) : Ext B G G2 :=
  ⟨a.same.trans b.same, fun x h => by
    rcases b.new x h with z | z | z
    · rcases a.new x z with w | w | ⟨vs, w⟩
      · exact .inl w
      · exact .inr (.inl w)
      · exact .inr (.inr ⟨vs, b.same _ _ w⟩)
    · exact .inr (.inl z)
    · exact .inr (.inr z)⟩
/-- what an expression gave -/
def PlOk (K : PySem.W.Frag) (B : Hp) (σ : L2.St) (ρ : Rho) (G H : Hp) (v : V) : Pl → Prop
  | .val d => Fz K G v d
  | .slot i => σ[i]? = some (some v)
  | .tmp d => ∃ a, v = .ref a ∧ G a = none ∧ B a = none ∧ Cont K G H a d ∧ ∀ (j : Nat) (p : D × Md), ρ[j]? = some (some p) → p.2.isFz = false → σ[j]? ≠ some (some v)
/-- .. where a new list is frozen at once -/
def PlFx (K : PySem.W.Frag) (σ : L2.St) (G : Hp) (v : V) : Pl → Prop
  | .val d => Fz K G v d
  | .slot i => σ[i]? = some (some v)
  | .tmp d => Fz K G v d
section
variable {K : PySem.W.Frag} {L : L2.St} {B G G' H H' : Hp} {σ : L2.St} {ρ : Rho} {v : V} {d : D} {a : Addr}
theorem Cont.mono (s : Same G G') (c : Cont K G H a d) : Cont K G' H a d := by
  cases c with
  | lst h x => exact .lst h (x.mono s)
  | dK h x => exact .dK h (x.mono s)
  | dT h x => exact .dT h (x.mono s)
  | ob h o x => exact .ob h o (x.mono s)
theorem Cont.heap (c : Cont K G H a d) (h : ∀ o, H a = some o → H' a = some o) : Cont K G H' a d := by
  cases c with
  | lst e x => exact .lst (h _ e) x
  | dK e x => exact .dK (h _ e) x
  | dT e x => exact .dT (h _ e) x
  | ob e o x => exact .ob (h _ e) o x
theorem Cont.there (c : Cont K G H a d) : ∃ o, H a = some o := by
  cases c with
  | lst e x => exact ⟨_, e⟩
  | dK e x => exact ⟨_, e⟩
  | dT e x => exact ⟨_, e⟩
  | ob e o x => exact ⟨_, e⟩
theorem Cont.frozen (c : Cont K G H a d) (s : Same G G') (h : G' a = H a) : Fz K G' (.ref a) d := by
  cases c with
  | lst e x => exact .lst (.inl (h.trans e)) (x.mono s)
  | dK e x => exact .dK (h.trans e) (x.mono s)
  | dT e x => exact .dT (h.trans e) (x.mono s)
  | ob e o x => exact .ob (h.trans e) o (x.mono s)
theorem SlotOk.mono {p : D × Md} (e : Ext B G G') (hn : p.2.isFz = false → ∀ a, v = .ref a → G' a = none) (s : SlotOk K G H B v p) : SlotOk K G' H B v p := by
  obtain ⟨d, m⟩ := p
  cases m with
  | fz => exact Fz.mono e.same s
  | lz => exact Fz.mono e.same s
  | own =>
    obtain ⟨a, rfl, h1, h2, c⟩ := s
    exact ⟨a, rfl, hn rfl a rfl, h2, c.mono e.same⟩
  | lent =>
    obtain ⟨a, rfl, h1, h2, c⟩ := s
    exact ⟨a, rfl, hn rfl a rfl, h2, c.mono e.same⟩
theorem SlotOk.heap {p : D × Md} (h : p.2.isFz = false → ∀ a o, v = .ref a → H a = some o → H' a = some o) (s : SlotOk K G H B v p) : SlotOk K G H' B v p := by
  obtain ⟨d, m⟩ := p
  cases m with
  | fz => exact s
  | lz => exact s
  | own =>
    obtain ⟨a, rfl, h1, h2, c⟩ := s
    exact ⟨a, rfl, h1, h2, c.heap fun o e => h rfl a o rfl e⟩
  | lent =>
    obtain ⟨a, rfl, h1, h2, c⟩ := s
    exact ⟨a, rfl, h1, h2, c.heap fun o e => h rfl a o rfl e⟩
theorem SlotOk.own {p : D × Md} (h : p.2.isFz = false) (s : SlotOk K G H B v p) : ∃ a, v = .ref a ∧ G a = none ∧ B a = none ∧ Cont K G H a p.1 := by
  obtain ⟨d, m⟩ := p
  cases m with
  | fz => cases h
  | lz => cases h
  | own => exact s
  | lent => exact s
theorem SlotOk.fz {p : D × Md} (h : p.2.isFz = true) (s : SlotOk K G H B v p) : Fz K G v p.1 := by
  obtain ⟨d, m⟩ := p
  cases m with
  | fz => exact s
  | lz => exact s
  | own => cases h
  | lent => cases h
theorem Vw.of (h : Fz K G v d) : Vw K G H v d := .inl h
theorem Rel.gb (r : Rel K L B σ ρ G H) (e : Ext B G G') (s' : Same G' H') (b' : Same B H')
    (hg : ∀ (i : Nat) (p : D × Md) (a : Addr), ρ[i]? = some (some p) → p.2.isFz = false → σ[i]? = some (some (.ref a)) → G' a = none ∧ ∀ o, H a = some o → H' a = some o) : Rel K L B σ ρ G' H' where
  sub := s'
  base := b'
  len := r.len
  slots := fun i p h => by
    obtain ⟨v, h1, h2⟩ := r.slots i p h
    refine ⟨v, h1, (h2.mono e fun hf a ea => ?_).heap fun hf a o ea => ?_⟩
    · subst ea; exact (hg i p a h hf h1).1
    · subst ea; exact (hg i p a h hf h1).2 o
  sep := r.sep
  lent := r.lent
/-- a new object stands at p -/
theorem Same.upd_new {p : Addr} {o : HO} (h : H p = none) : Same H (upd H p o) := fun b u e => by rw [upd_ne (ne_of_none e h)]; exact e
theorem Rel.new (r : Rel K L B σ ρ G H) (s : Same H H') : Rel K L B σ ρ G H' :=
  r.gb .refl (r.sub.trans s) (r.base.trans s) fun i p a h hf hv => by
    obtain ⟨v, h1, h2⟩ := r.slots i p h
    rw [hv] at h1; cases h1
    obtain ⟨a', e, h3, h4, c⟩ := h2.own hf
    cases e
    exact ⟨h3, fun o e => s _ _ e⟩
/-- a thing that no name owns is frozen -/
theorem Rel.freeze (r : Rel K L B σ ρ G H) {o : HO} (hb : B a = none) (hg : G a = none) (ho : H a = some o) (hs : ∀ (j : Nat) (p : D × Md), ρ[j]? = some (some p) → p.2.isFz = false → σ[j]? ≠ some (some (.ref a))) :
    Rel K L B σ ρ (upd G a o) H ∧ Ext B G (upd G a o) := by
  have e : Ext B G (upd G a o) := ⟨Same.upd_new hg, fun b h => by
    by_cases hb' : b = a
    · subst hb'; exact .inr (.inl hb)
    · rw [upd_ne hb'] at h; exact .inl h⟩
  refine ⟨r.gb e (fun b u q => ?_) r.base fun i p a' h hf hv => ?_, e⟩
  · by_cases hb' : b = a
    · subst hb'; rw [upd_same] at q; cases q; exact ho
    · rw [upd_ne hb'] at q; exact r.sub b u q
  · obtain ⟨v, h1, h2⟩ := r.slots i p h
    rw [hv] at h1; cases h1
    obtain ⟨a2, e2, h3, h4, c⟩ := h2.own hf
    cases e2
    have : a' ≠ a := fun z => by subst z; exact hs i p h hf hv
    exact ⟨by rw [upd_ne this]; exact h3, fun o e => e⟩
theorem PlFx.mono {p : Pl} (s : Same G G') (h : PlFx K σ G v p) : PlFx K σ G' v p := by
  cases p with
  | val d => exact Fz.mono s h
  | tmp d => exact Fz.mono s h
  | slot i => exact h
/-- the value is kept -/
theorem PlFx.frz {p : Pl} {ρ' : Rho} (r : Rel K L B σ ρ G H) (h : PlFx K σ G v p) (e : frz p ρ = some (d, ρ')) : ∃ G', Rel K L B σ ρ' G' H ∧ Ext B G G' ∧ Fz K G' v d := by
  cases p with
  | val x => cases e; exact ⟨G, r, .refl, h⟩
  | tmp x => cases e; exact ⟨G, r, .refl, h⟩
  | slot i =>
    have h' : σ[i]? = some (some v) := h
    unfold TN.frz at e
    have key : ∀ d0 m m', ρ[i]? = some (some (d0, m)) → m.isFz = false → m'.isFz = true → (m = .lent → m' = .lz) → (m = .own → m' = .fz) → ∃ G', Rel K L B σ (ρ.set i (some (d0, m'))) G' H ∧ Ext B G G' ∧ Fz K G' v d0 := by
      intro d0 m m' q hm hm' hl1 hl2
      obtain ⟨v', h1, h2⟩ := r.slots i _ q
      rw [h'] at h1; cases h1
      obtain ⟨a, rfl, h3, h4, c⟩ := h2.own hm
      obtain ⟨o, ho⟩ := c.there
      have ee : Ext B G (upd G a o) := ⟨Same.upd_new h3, fun b h => by
        by_cases hb' : b = a
        · subst hb'; exact .inr (.inl h4)
        · rw [upd_ne hb'] at h; exact .inl h⟩
      have fz : Fz K (upd G a o) (.ref a) d0 := c.frozen ee.same (by rw [upd_same, ho])
      have hlt : i < ρ.length := (List.getElem?_eq_some_iff.mp q).1
      refine ⟨upd G a o, ⟨fun b u q' => ?_, r.base, by simpa using r.len, fun j p hp => ?_, fun j k p p' w hjk hp hp' hf hf' hw => ?_, fun j w hw => ?_⟩, ee, fz⟩
      · by_cases hb' : b = a
        · subst hb'; rw [upd_same] at q'; cases q'; exact ho
        · rw [upd_ne hb'] at q'; exact r.sub b u q'
      · by_cases hj : j = i
        · subst hj
          rw [List.getElem?_set_self hlt] at hp
          cases hp
          refine ⟨_, h', ?_⟩
          cases m' with
          | fz => exact fz
          | lz => exact fz
          | own => cases hm'
          | lent => cases hm'
        · rw [List.getElem?_set_ne (Ne.symm hj)] at hp
          obtain ⟨w, w1, w2⟩ := r.slots j p hp
          refine ⟨w, w1, w2.mono ee fun hf a' ea => ?_⟩
          subst ea
          have : a' ≠ a := fun z => by subst z; exact r.sep i j _ p _ (Ne.symm hj) q hp hm hf h' w1
          obtain ⟨a2, e2, h5, _, _⟩ := w2.own hf
          cases e2
          rw [upd_ne this]; exact h5
      · have hj : j ≠ i := fun z => by
          subst z; rw [List.getElem?_set_self hlt] at hp; cases hp
          rw [hm'] at hf; cases hf
        have hk : k ≠ i := fun z => by
          subst z; rw [List.getElem?_set_self hlt] at hp'; cases hp'
          rw [hm'] at hf'; cases hf'
        rw [List.getElem?_set_ne (Ne.symm hj)] at hp
        rw [List.getElem?_set_ne (Ne.symm hk)] at hp'
        exact r.sep j k p p' w hjk hp hp' hf hf' hw
      · obtain ⟨w1, d1, m1, w2, w3⟩ := r.lent j w hw
        by_cases hj : j = i
        · subst hj
          rw [q] at w2; cases w2
          refine ⟨w1, d0, m', List.getElem?_set_self hlt, ?_⟩
          rcases w3 with rfl | rfl
          · exact .inr (hl1 rfl)
          · cases hm
        · exact ⟨w1, d1, m1, by rw [List.getElem?_set_ne (Ne.symm hj)]; exact w2, w3⟩
    cases q : ρ[i]? with
    | none => simp [q] at e
    | some o =>
      cases o with
      | none => simp [q] at e
      | some p =>
        obtain ⟨d', m⟩ := p
        cases m with
        | own =>
          simp only [q, Option.some.injEq, Prod.mk.injEq] at e
          obtain ⟨rfl, rfl⟩ := e
          exact key _ _ _ q rfl rfl (fun z => by cases z) (fun _ => rfl)
        | lent =>
          simp only [q, Option.some.injEq, Prod.mk.injEq] at e
          obtain ⟨rfl, rfl⟩ := e
          exact key _ _ _ q rfl rfl (fun _ => rfl) (fun z => by cases z)
        | fz =>
          simp only [q, Option.some.injEq, Prod.mk.injEq] at e
          obtain ⟨rfl, rfl⟩ := e
          obtain ⟨v', h1, h2⟩ := r.slots i _ q
          rw [h'] at h1; cases h1
          exact ⟨G, r, .refl, h2⟩
        | lz =>
          simp only [q, Option.some.injEq, Prod.mk.injEq] at e
          obtain ⟨rfl, rfl⟩ := e
          obtain ⟨v', h1, h2⟩ := r.slots i _ q
          rw [h'] at h1; cases h1
          exact ⟨G, r, .refl, h2⟩
end
end TN
namespace TN
open PySem PySem.Spec PyProof.Rows L2

/-! ### tuples made where it is known that they have no dict of their own -/
section
variable {X : Cx}
/-- t.m(..), t a tuple known to have no dict of its own -/
def KtV (K : PySem.W.Frag) (x : V) (H : Hp) : Prop := ∃ (p : Addr) (o : Obj) (xs : List V), x = .ref p ∧ H p = some (.frz o (.tup xs)) ∧ o.dict = none
theorem KtV.is {pins : List (Addr × Obj)} {σ : L2.St} {H : Hp} {s : Shared} {x : V} {v : Value} (I : Inv X pins σ H s) (r : RelV x v) (ty : KtV X.K x H) :
    s.TypeIs v "tuple" ∧ ∀ a, v = .ref a → ∃ ob, s.heap.get? a = some ob ∧ ob.dict = none := by
  obtain ⟨p, o, xs, rfl, hp, hd⟩ := ty
  cases r
  obtain ⟨ho, _, its, _, tp⟩ := I.hok p _ hp
  refine ⟨tp.typeIs, fun a e => ?_⟩
  cases e
  exact ⟨o, ho, hd⟩
end
end TN
namespace TN
open PySem PySem.Spec PyProof.Rows L2

/-! ### dicts whose keys are tuples of whole numbers, the keys' addresses known -/
theorem PRT.length {rs : List RowT} {xs : List (List Key × Addr × Value)} (r : PRT rs xs) : rs.length = xs.length := Paired.length r
/-- the values by the keys -/
def rowsV (rs : List RowT) : List (List Key × V) := rs.map fun r => (r.1, r.2.2)
theorem PRT.val {rs : List RowT} {xs : List (List Key × Addr × Value)} (r : PRT rs xs) (k : List Key) : RelO (valV (rowsV rs) k) ((atKey xs k).map (·.2)) := by
  induction r with
  | nil => exact True.intro
  | @cons p q ps qs h t ih =>
    obtain ⟨h1, _, h2⟩ := h
    show RelO (valV ((p.1, p.2.2) :: rowsV ps) k) _
    by_cases e : p.1 = k
    · have e' : q.1 = k := h1.symm.trans e
      have b : atKey (q :: qs) k = some q.2 := by simp [atKey, List.find?_cons, e']
      rw [valV_pos e, b]; exact h2
    · have e' : ¬ q.1 = k := fun z => e (h1.trans z)
      have b : atKey (q :: qs) k = atKey qs k := by simp [atKey, List.find?_cons, e']
      rw [valV_neg e, b]; exact ih
section
variable {X : Cx} {pins : List (Addr × Obj)} {σ : L2.St} {H : Hp} {s : Shared} {a : Addr} {y v : V} {u r : Value} {o : Option V} {A : Around} {E : Value → Shared → Prop}
end
/-! d.get(y, z) -/
end TN
namespace TN
open PySem PySem.Spec PyProof.Rows L2

/-! ### what a computation gave -/
def XcOk (X : Cx) (B : Hp) (G H : Hp) (x : Xc) (cls : Value) (d : Option Addr) : Prop :=
  ∃ C : Addr, X.mg x.cls = some (.ref C) ∧ cls = .ref C ∧ ((x.flds = [] ∧ d = none) ∨ ∃ (dd : Addr) (fs : List (Str × V)), d = some dd ∧ H dd = some (.xd fs) ∧ B dd = none ∧ FzN X.K G fs x.flds)
def Got {α β : Type} (X : Cx) (L : L2.St) (W : WX) (σ : L2.St) (G B : Hp) (P : α → Rho → Hp → Hp → β → Prop) (r : R α) (Q : β → Hp → Prop) : Prop := match r with
  | .ok a ρ' => ∀ (b : β) (H' G' : Hp), Rel X.K L B σ ρ' G' H' → Ext B G G' → P a ρ' G' H' b → Q b H'
  | .exc x ρ' => ∀ (cls : Value) (d : Option Addr) (H' G' : Hp), Rel X.K L B σ ρ' G' H' → Ext B G G' → XcOk X B G' H' x cls d → W cls d σ H'
  | .bad => False
inductive PlA (K : PySem.W.Frag) (σ : L2.St) (G : Hp) : List V → List Pl → Prop
  | nil : PlA K σ G [] []
  | cons {v : V} {vs : List V} {p : Pl} {ps : List Pl} : PlFx K σ G v p → PlA K σ G vs ps → PlA K σ G (v :: vs) (p :: ps)
abbrev GotA (X : Cx) (L : L2.St) (W : WX) (σ : L2.St) (G B : Hp) (r : R (List Pl)) (Q : List V → Hp → Prop) : Prop := Got X L W σ G B (fun ps _ G' _ vs => PlA X.K σ G' vs ps) r Q
abbrev CE := Rho → R Pl
abbrev CB := Rho → R Bool
abbrev CA := Rho → R (List Pl)
section
variable {X : Cx} {L : L2.St} {W : WX} {σ : L2.St} {G G1 B H : Hp}
theorem Got.shift {α β : Type} {P : α → Rho → Hp → Hp → β → Prop} {r : R α} {Q : β → Hp → Prop} (e : Ext B G G1) (h : Got X L W σ G B P r Q) : Got X L W σ G1 B P r Q := by
  cases r with
  | ok a ρ' => exact fun b H' G' rel ext p => h b H' G' rel (e.trans ext) p
  | exc x ρ' => exact fun c d H' G' rel ext p => h c d H' G' rel (e.trans ext) p
  | bad => exact h
theorem Got.mono {α β : Type} {P : α → Rho → Hp → Hp → β → Prop} {r : R α} {Q Q' : β → Hp → Prop} (h : Got X L W σ G B P r Q) (w : ∀ b H', Q b H' → Q' b H') : Got X L W σ G B P r Q' := by
  cases r with
  | ok a ρ' => exact fun b H' G' rel ext p => w _ _ (h b H' G' rel ext p)
  | exc x ρ' => exact h
  | bad => exact h
theorem PlA.mono {K : PySem.W.Frag} (s : Same G G1) : ∀ {vs : List V} {ps : List Pl}, PlA K σ G vs ps → PlA K σ G1 vs ps
  | _, _, .nil => .nil
  | _, _, .cons a b => .cons (a.mono s) (b.mono s)
end

/-! ### new values -/
/-- what a pure operation leaves: a frozen value, a new tuple, a new list or dict -/
inductive Post (K : PySem.W.Frag) (G H : Hp) : V → Hp → Pl → Prop
  | fz {v : V} {d : D} : Fz K G v d → Post K G H v H (.val d)
  | tup {p : Addr} {vs : List V} {ds : List D} {o : Obj} : H p = none → o.dict = none → FzA K G vs ds → Post K G H (.ref p) (upd H p (.frz o (.tup vs))) (.val (.tuple ds))
  | tmp {p : Addr} {o : HO} {d : D} : H p = none → Cont K G (upd H p o) p d → Post K G H (.ref p) (upd H p o) (.tmp d)
section
variable {X : Cx} {L : L2.St} {W : WX} {σ : L2.St} {ρ : Rho} {G G1 B H H' : Hp} {v : V} {p : Pl}
theorem Post.ok (h : Post X.K G H v H' p) (r : Rel X.K L B σ ρ G H) : ∃ G', Rel X.K L B σ ρ G' H' ∧ Ext B G G' ∧ PlOk X.K B σ ρ G' H' v p := by
  have key : ∀ {q : Addr} {o : HO}, H q = none → Rel X.K L B σ ρ G (upd H q o) ∧ B q = none ∧ G q = none ∧ ∀ (j : Nat) (p : D × Md), ρ[j]? = some (some p) → p.2.isFz = false → σ[j]? ≠ some (some (.ref q)) := by
    intro q o hq
    refine ⟨r.new (Same.upd_new hq), r.base.free hq, r.sub.free hq, fun j p hp hf hv => ?_⟩
    obtain ⟨w, h1, h2⟩ := r.slots j p hp
    rw [hv] at h1; cases h1
    obtain ⟨a, e, _, _, c⟩ := h2.own hf
    cases e
    obtain ⟨o', ho⟩ := c.there
    rw [hq] at ho; cases ho
  cases h with
  | fz h => exact ⟨G, r, .refl, h⟩
  | @tup q vs ds o hq hd x =>
    obtain ⟨r1, b1, g1, s1⟩ := key (o := .frz o (.tup vs)) hq
    obtain ⟨r2, e2⟩ := r1.freeze b1 g1 upd_same s1
    exact ⟨_, r2, e2, Fz.tup ⟨o, upd_same, hd⟩ (x.mono e2.same)⟩
  | @tmp q o d hq c =>
    obtain ⟨r1, b1, g1, s1⟩ := key (o := o) hq
    exact ⟨G, r1, .refl, q, rfl, g1, b1, c, s1⟩
end
/-! ### names, constants -/
section
variable {X : Cx} {e a b : Expr} {ca cb : CE} {pos : Pos}
end

/-! ### operations of one and two values -/
section
variable {X : Cx} {e a b : Expr} {ca cb : CE} {pos : Pos} {f : D → D → Option Pl} {g : D → Option Pl} {r : R2} {r1 : V → Hp → VK → Prop}
theorem Vw.bool {K : PySem.W.Frag} {G H : Hp} {v : V} {b : Bool} (h : Vw K G H v (.bool b)) : v = .bl b := by
  rcases h with h | ⟨a, _, h⟩
  · cases h; rfl
  · cases h
theorem Vw.int {K : PySem.W.Frag} {G H : Hp} {v : V} {b : Int} (h : Vw K G H v (.int b)) : v = .int b := by
  rcases h with h | ⟨a, _, h⟩
  · cases h; rfl
  · cases h
theorem Vw.str {K : PySem.W.Frag} {G H : Hp} {v : V} {b : Str} (h : Vw K G H v (.str b)) : v = .str b := by
  rcases h with h | ⟨a, _, h⟩
  · cases h; rfl
  · cases h
theorem Vw.tup {K : PySem.W.Frag} {G H : Hp} {v : V} {ds : List D} (s : Same G H) (h : Vw K G H v (.tuple ds)) : ∃ a xs, v = .ref a ∧ Kt G a xs ∧ SqT K H a xs ∧ FzA K G xs ds := by
  rcases h with h | ⟨a, _, h⟩
  · cases h with
    | tup h1 h2 => exact ⟨_, _, rfl, h1, Same.tp s (sqt h1), h2⟩
  · cases h
/-! ### and, or, not -/
variable {ba bb : CB} {rest : List Expr}
/-! ### argument lists, displays -/
variable {es : List Expr} {cr : CA}
/-! ### built-ins called -/
inductive VwA (K : PySem.W.Frag) (G H : Hp) : List V → List D → Prop
  | nil : VwA K G H [] []
  | cons {v : V} {vs : List V} {d : D} {ds : List D} : Vw K G H v d → VwA K G H vs ds → VwA K G H (v :: vs) (d :: ds)
variable {rc : List V → Hp → VK → Prop} {fc : List D → Option Pl} {x : Str} {p : Pos} {id T : String}
end
end TN
namespace TN
open PySem PySem.Spec PyProof.Rows L2

/-! ### storing -/
section
variable {K : PySem.W.Frag} {L : L2.St} {B G H H' : Hp} {σ : L2.St} {ρ : Rho} {v : V} {d : D} {i : Nat}
end
/-! ### statements -/
inductive RS where
  | nx (ρ : Rho) | ret (d : D) (fr : Bool) (ρ : Rho) | exc (x : Xc) (ρ : Rho) | bad
abbrev CS := Rho → RS
def plR (d : D) (fr : Bool) : Pl := if fr = true then .tmp d else .val d
def GotS (X : Cx) (L : L2.St) (W : WX) (G B : Hp) (r : RS) (Dn : Ends) : Prop := match r with
  | .nx ρ' => ∀ (σ' : L2.St) (H' G' : Hp), Rel X.K L B σ' ρ' G' H' → Ext B G G' → Dn.nx σ' H'
  | .ret d fr ρ' => ∀ (v : V) (σ' : L2.St) (H' G' : Hp), Rel X.K L B σ' ρ' G' H' → Ext B G G' → PlOk X.K B σ' ρ' G' H' v (plR d fr) → Dn.rt v H'
  | .exc x ρ' => ∀ (cls : Value) (d : Option Addr) (σ' : L2.St) (H' G' : Hp), Rel X.K L B σ' ρ' G' H' → Ext B G G' → XcOk X B G' H' x cls d → W cls d σ' H'
  | .bad => False
section
variable {X : Cx} {L : L2.St} {W : WX} {G G1 B : Hp}
theorem GotS.shift {r : RS} {Dn : Ends} (e : Ext B G G1) (h : GotS X L W G B r Dn) : GotS X L W G1 B r Dn := by
  cases r with
  | nx ρ' => exact fun σ' H' G' rel ext => h σ' H' G' rel (e.trans ext)
  | ret d fr ρ' => exact fun v σ' H' G' rel ext ok => h v σ' H' G' rel (e.trans ext) ok
  | exc x ρ' => exact fun c d σ' H' G' rel ext ok => h c d σ' H' G' rel (e.trans ext) ok
  | bad => exact h
end
section
variable {X : Cx} {st : Stmt} {sts : List Stmt} {a b : CS} {e : Expr} {c : CE} {t : CB} {pos pos' : Pos}
/-! ### targets -/
/-- vs: the names that may change -/
def Only (vs : List Nat) (σ σ' : L2.St) : Prop := σ'.length = σ.length ∧ ∀ i, i ∉ vs → σ'[i]? = σ[i]?
theorem Only.trans {vs ws : List Nat} {σ σ1 σ2 : L2.St} (a : Only vs σ σ1) (b : Only ws σ1 σ2) : Only (vs ++ ws) σ σ2 :=
  ⟨b.1.trans a.1, fun i h => by
    simp only [List.mem_append, not_or] at h
    exact (b.2 i h.2).trans (a.2 i h.1)⟩
variable {es : List Expr} {g : D → Rho → Option Rho} {gs : List D → Rho → Option Rho} {vs ws : List Nat}
/-! ### what is walked -/
abbrev CI := Rho → R (List D)
variable {tg : Expr} {ci : CI}
end
end TN
namespace TN
open PySem PySem.Spec PyProof.Rows L2

/-! ### defs -/
inductive FR where
  | ok (d : D) (fr : Bool) (outs : List Slot) | exc (x : Xc) (outs : List Slot) | bad
/-- a def's meaning: its arguments (frozen, or lent), what it gives -/
abbrev FM := List (D × Md) → FR
section
variable {P : Program} {w : World} {K : PySem.W.Frag} {mg : Str → Option Value} {base : Heap} {x qual : Str} {params : Arguments} {body : List Stmt} {scope : Scope} {f : Addr} {fd : FuncData}
end

/-! ### calls -/
theorem PlA.length {K : PySem.W.Frag} {σ : L2.St} {G : Hp} : ∀ {vs : List V} {ps : List Pl}, PlA K σ G vs ps → vs.length = ps.length
  | _, _, .nil => rfl
  | _, _, .cons _ b => by simp [b.length]
section
variable {K : PySem.W.Frag} {L : L2.St} {B G H : Hp} {σ : L2.St} {ρ : Rho} {ps : List Pl} {vs : List V} {as : List (D × Md)}
end
section
variable {X : Cx} {k n : Nat} {f : Addr} {fd : FuncData} {pn : List Str} {M : FM} {x : Str} {p pos : Pos} {e : Expr} {es : List Expr} {cr : CA}
end
/-! ### a law's end -/
end TN
namespace TN
open PySem PySem.Spec PyProof.Rows L2

/-! ### list comprehensions -/
section
variable {K : PySem.W.Frag} {L : L2.St} {B G G1 G2 H H1 : Hp} {σ : L2.St} {ρ ρ1 ρ2 : Rho} {vs : List Nat} {D0 : Addr} {v : V}
end
section
variable {X : Cx} {elt tg iter : Expr} {ifs : List Expr} {scope : Scope} {own : List (Str × Nat)} {pos : Pos} {ci : CI} {g : D → Rho → Option Rho} {t : CB} {e : CE}
variable {ws : List Nat} {y : Str} {py spos : Pos}
end
end TN
namespace TN
open PySem PySem.Spec PyProof.Rows L2

/-! ### keys, dicts -/
section
variable {K : PySem.W.Frag} {G : Hp}
theorem FzK.length : ∀ {kvs : List (Key × V)} {es : List (D × D)}, FzK K G kvs es → kvs.length = es.length
  | _, _, .nil => rfl
  | _, _, .cons _ b => by simp [b.length]
end

section
variable {K : PySem.W.Frag} {G : Hp}
theorem FzT.length : ∀ {kvs : List RowT} {es : List (D × D)}, FzT K G kvs es → kvs.length = es.length
  | _, _, .nil => rfl
  | _, _, .cons _ _ _ b => by simp [b.length]
end

/-! ### what is looked at is a dict -/
/-! ### d[k] as an item -/
/-! ### {} -/
section
variable {X : Cx} {pos : Pos}
end
end TN
namespace TN
open PySem PySem.Spec PyProof.Rows L2

/-! ### + - * // % ** -/
section
variable {X : Cx} {pins : List (Addr × Obj)} {σ : L2.St} {H : Hp} {s : Shared} {l b : Addr} {xs ys zs : List V}
end
section
variable {X : Cx}
/-! ### comparisons -/
/-! ### items, slices -/
end
end TN
namespace PySem.W
open PySem PySem.Spec PySem.Calls PyProof.Rows
section
variable {prog : Program} {w : World} {A : Around} {E : Value → Shared → Prop} {s : Shared} {K : Frag} {x D : Addr} {ox : Obj}
end
end PySem.W
namespace TN
open PySem PySem.Spec PyProof.Rows L2
section
variable {X : Cx}
/-! ### in, not in -/
/-! ### chains: a op b op c -/
/-! ### isinstance -/
/-! ### len, abs, max, min, int, sum, list, tuple, str -/
theorem VwA.one {K : PySem.W.Frag} {G H : Hp} {xs : List V} {d : D} (h : VwA K G H xs [d]) : ∃ v, xs = [v] ∧ Vw K G H v d := by
  cases h with
  | cons a b => cases b; exact ⟨_, rfl, a⟩
theorem VwA.len {K : PySem.W.Frag} {G H : Hp} : ∀ {xs : List V} {ds : List D}, VwA K G H xs ds → xs.length = ds.length
  | _, _, .nil => rfl
  | _, _, .cons _ b => by simp [b.len]
end
end TN
namespace TN
open PySem PySem.Spec PyProof.Rows L2

/-! ### tuples that stand are frozen -/
section
variable {X : Cx} {es : List Expr} {cr : CA} {rc : List V → Hp → VK → Prop} {fc : List D → Option Pl} {x : Str} {p : Pos} {T : String} {e : Expr} {pos : Pos}
end
/-! ### list(d) -/
end TN
namespace TN
open PySem PySem.Spec PyProof.Rows L2

/-! ### sum, min, max of ints in a list or tuple -/
section
variable {prog : Program} {w : World} {A : Around} {E : Value → Shared → Prop} {s : Shared} {l : Addr} {its : List Value} {ns : List Int} {Q : Value → Shared → Prop}
end
section
variable {X : Cx} {k : Nat}
/-! ### all -/
end
end TN
namespace TN
open PySem PySem.Spec PyProof.Rows L2

/-! ### sorted(list) -/
abbrev dLe : D → D → Bool := PySem.W.dataLe false id
theorem FzA.zip {K : PySem.W.Frag} {G : Hp} : ∀ {xs : List V} {ds : List D}, FzA K G xs ds → (∀ b ∈ xs.zip ds, Fz K G b.1 b.2) ∧ (xs.zip ds).map Prod.fst = xs ∧ (xs.zip ds).map Prod.snd = ds
  | _, _, .nil => ⟨fun b hb => by simp at hb, rfl, rfl⟩
  | _, _, .cons a r => by
    obtain ⟨h1, h2, h3⟩ := r.zip
    refine ⟨fun b hb => ?_, ?_, ?_⟩
    · rcases List.mem_cons.mp hb with rfl | hb
      · exact a
      · exact h1 b hb
    · rw [List.zip_cons_cons, List.map_cons, h2]
    · rw [List.zip_cons_cons, List.map_cons, h3]
/-! sorted(a tuple) -/
section
variable {prog : Program} {w : World} {A : Around} {E : Value → Shared → Prop} {s : Shared}
end
section
variable {X : Cx} {k : Nat} {pins : List (Addr × Obj)} {σ : L2.St} {H : Hp} {s : Shared}
/-! ### list(range(..)), tuple(range(..)) -/
variable {a b e : Expr} {ca cb : CE} {p pos : Pos} {cr : Rho → R (Int × Int)}
/-! ### x in range(..) -/
/-! ### len(set(xs)) of ints -/
end
end TN
/-! ### enumerate(tuple) -/
namespace PySem
open Sem (wp)
open AutoSeq1 (wpAny_loadPart')
section
variable {prog : Program} {w : World} {A : Around} {E : Value → Shared → Prop} {s : Shared}
end
end PySem
namespace TN
open PySem PySem.Spec PyProof.Rows L2
end TN
namespace TN
open PySem PySem.Spec PyProof.Rows L2

/-! ### what is walked: soundness -/
section
variable {K : PySem.W.Frag} {G : Hp} {a b : Addr} {xs ys : List V} {ds es : List D}
end

section
variable {X : Cx} {tg e e2 : Expr} {c c2 : CE} {p pos : Pos}
/-! range -/
/-! enumerate -/
/-! zip -/
end
end TN
namespace TN
open PySem PySem.Spec PyProof.Rows L2

/-! ### a list that a name owns changes -/
section
variable {K : PySem.W.Frag} {L : L2.St} {B G H : Hp} {σ : L2.St} {ρ : Rho} {d d' : D} {m : Md} {i : Nat} {a : Addr} {o : HO}
end
section
variable {X : Cx} {e : Expr} {es : List Expr} {ca : CA} {p apos cpos : Pos} {T id : String} {x name : Str} {r : V → List V → Hp → VK → Prop} {f : D → List D → Option (D × D)} {W : WX}
/-! append, extend, pop -/
end
end TN
namespace TN
open PySem PySem.Spec PyProof.Rows L2

/-! ### x[k] = v -/
section
variable {X : Cx} {x : Str} {k : Expr} {ck c : CE} {p pos : Pos} {t : TSet} {f : D → D → D → Option D} {W : WX}
/-! ### xs[k] += e -/
/-! lists -/
/-! dicts -/
/-! a, b = x, y -/
end
end TN
namespace TN
open PySem PySem.Spec PyProof.Rows L2

/-! ### methods that change nothing -/
section
variable {X : Cx} {o e : Expr} {es : List Expr} {co : CE} {ca : CA} {p apos cpos : Pos} {T id : String} {name : Str} {r : V → List V → Hp → VK → Prop} {f : D → List D → Option Pl} {W : WX}
/-! list.index, list.count -/
/-! xs[::-1] -/
end
end TN
namespace TN
open PySem PySem.Spec PyProof.Rows L2

/-! ### defs by their meanings -/
section
variable {X : Cx} {k n : Nat} {M : FM} {x : Str} {p pos : Pos} {e : Expr} {es : List Expr} {cr : CA}
end
/-! ### the head: facts of a part of the heap without lists -/
def isLst (o : Obj) : Bool := match o.cls, o.data with
  | .type c, .seq _ _ => decide (c = "list")
  | _, _ => false
def frN (K : PySem.W.Frag) : PySem.W.Frag := K.filter fun p => !isLst p.2
def NoLst (K : PySem.W.Frag) : Prop := ∀ (a : Addr) (o : Obj), K.lookup a = some o → isLst o = false
theorem lookup_mem {a : Addr} {o : Obj} : ∀ {K : PySem.W.Frag}, K.lookup a = some o → (a, o) ∈ K
  | [], h => nomatch (show (none : Option Obj) = some o from h)
  | (b, p) :: r, h => by
    have h2 : (match a == b with | true => some p | false => List.lookup a r) = some o := h
    cases q : a == b with
    | true =>
      rw [q] at h2
      cases h2
      rw [eq_of_beq q]
      exact List.mem_cons_self ..
    | false =>
      rw [q] at h2
      exact List.mem_cons_of_mem _ (lookup_mem h2)
theorem frN_no (K : PySem.W.Frag) : NoLst (frN K) := fun a o h => by
  have := (List.mem_filter.mp (lookup_mem h)).2
  simpa using this
theorem frN_in {as : List Addr} {h : Heap} : (frN (He.frG h.get? as)).In h := fun a o e => by
  have h1 := (List.mem_filter.mp (lookup_mem e)).1
  unfold He.frG at h1
  obtain ⟨b, _, hb⟩ := List.mem_filterMap.mp h1
  cases q : h.get? b with
  | none => rw [q] at hb; cases hb
  | some o' =>
    rw [q] at hb
    cases hb
    exact q
end TN
namespace TN
open PySem PySem.Spec PyProof.Rows L2

/-! ### t[::-1] -/
section
variable {prog : Program} {w : World} {A : Around} {E : Value → Shared → Prop} {s : Shared}
end
section
variable {X : Cx}
end
end TN
namespace TN
open PySem PySem.Spec PyProof.Rows L2
end TN
namespace TN
open PySem PySem.Spec PyProof.Rows L2

/-! ### f(g(..), ..): the first argument a new list, lent -/
section
variable {K : PySem.W.Frag} {L : L2.St} {B G H : Hp} {σ : L2.St} {ρ ρ' : Rho} {x : Option V} {v : V} {d : D} {a : Addr}
end
section
variable {X : Cx} {k n : Nat} {f : Addr} {fd : FuncData} {pn : List Str} {M : FM} {x : Str} {p pos : Pos} {e : Expr} {es : List Expr} {ce : CE} {cr : CA}
end
end TN
namespace TN
open PySem PySem.Spec PyProof.Rows L2

/-! ### calls, plainly -/
/-! ### loops, plainly -/
end TN
namespace TN
open PySem PySem.Spec PyProof.Rows L2

/-! ### what all laws begin by: a script's cell, a pen, its draws -/
/-! equations -/
structure Pen where
  a : Int
  f : Int
  s : Int
def Pen.d (p : Pen) : D := .list [.int p.a, .int p.f, .int p.s]
def nextI (s : Int) : Int := (((s + 7919) % 2147483647) * ((s + 7919) % 2147483647) + 48271 * ((s + 7919) % 2147483647) + 12345) % 2147483629
def Pen.draw (p : Pen) (m : Int) : Int := if p.f = 1 then p.a % m else nextI (nextI p.s + 7) / 64 % m
end TN
namespace TN
open PySem PySem.Spec PyProof.Rows L2

/-! ### comprehensions, loops: one turn -/
/-- one turn of a loop -/
def body (g : D → Rho → Option Rho) (b : CS) (x : D) (ρ : Rho) : RS := match g x ρ with
  | some ρ1 => b ρ1
  | none => .bad
/-! ### what is returned -/
/-! ### draws by a pen in a certain slot -/
section
variable {p : Pen} {m : Int} {s0 s1 s2 s3 s4 s5 s6 s7 : Slot} {ρ : Rho}
end

/-! ### is_whole -/
/-! ### equal data -/
/-! ### cuts -/
end TN
namespace TN
open PySem PySem.Spec PyProof.Rows L2
/-! ### loops by what was walked -/
/-! ### ranges -/
/-! ### steps by their parts -/
/-! ### sorted ints -/
/-! ### what is returned, what the parameters hold -/
/-! ### comprehensions with a test -/
/-! ### sums -/
end TN
namespace TN
open PySem PySem.Spec PyProof.Rows L2

/-! ### webs, steps: what many laws look at -/
def tieD (t : Nat × Nat) : D := .tuple [.int (t.1 : Nat), .int (t.2 : Nat)]
structure WebOk (n : Nat) (ts : List (Nat × Nat)) : Prop where
  n1 : 1 ≤ n
  nl : n ≤ 1000
  tl : ts.length ≤ 1000
  lt : ∀ t ∈ ts, t.1 < n ∧ t.2 < n
/-! are_numbers -/
/-! steps_good -/
/-! ties_at, tie_counts -/
def hasP (t : Nat × Nat) (k : Nat) : Bool := t.1 == k || t.2 == k
def deg (ts : List (Nat × Nat)) (k : Nat) : Nat := ts.countP fun t => hasP t k
/-! lists of ties -/
end TN
namespace TN
open PySem PySem.Spec PyProof.Rows L2
/-! ### is, is not: truths and None -/
end TN
namespace TN
open PySem PySem.Spec PyProof.Rows L2

/-! ### a list of a name's own gone through, and the name's own still behind -/
section
variable {K : PySem.W.Frag} {L : L2.St} {B G G1 H H1 : Hp} {σ : L2.St} {ρ : Rho} {a : Addr} {o : HO} {xs : List V} {ds : List D} {j : Nat} {m : Md}
end
section
variable {X : Cx} {elt tg iter : Expr} {ifs : List Expr} {scope : Scope} {own : List (Str × Nat)} {pos : Pos} {ci : CI} {g : D → Rho → Option Rho} {t : CB} {e : CE}
variable {ws : List Nat} {x y : Str} {py px spos : Pos} {j : Nat}
end
end TN
namespace TN
open PySem PySem.Spec PyProof.Rows L2

/-! ### chains of three: a op b op c op d -/
section
variable {X : Cx} {a b c d : Expr} {ta tb tc td : TE} {pos : Pos} {op op' op'' : CmpOp} {r r' r'' : R2}
end
section
variable {X : Cx} {a b c d : Expr} {ca cb cc cd : CE} {pos : Pos} {op op' op'' : CmpOp} {r r' r'' : R2} {e f g : D → D → Option Pl}
end
end TN
namespace TN
open PySem PySem.Spec PyProof.Rows L2
/-! ### <, >= of tuples of ints -/
end TN
namespace TN
open PySem PySem.Spec PyProof.Rows L2

/-! ### webs by drawn ties -/
/-! more steps -/
/-! the dict of ties -/
def sortT (F : List (Nat × Nat)) : List (Nat × Nat) := F.mergeSort fun a b => dLe (tieD a) (tieD b)
theorem sortT_perm (F : List (Nat × Nat)) : (sortT F).Perm F := List.mergeSort_perm _ _
/-- a web as the laws draw it -/
structure GoodWeb (n : Nat) (ts : List (Nat × Nat)) : Prop where
  n1 : 1 ≤ n
  nl : n ≤ 40
  tl : ts.length ≤ 60
  lt : ∀ t ∈ ts, t.1 < t.2 ∧ t.2 < n
  nd : ts.Nodup
  so : ∃ F, ts = sortT F
theorem GoodWeb.ok {n : Nat} {ts : List (Nat × Nat)} (h : GoodWeb n ts) : WebOk n ts := ⟨h.n1, by have := h.nl; omega, by have := h.tl; omega, fun t ht => by have := h.lt t ht; omega⟩
end TN
namespace TN
open PySem PySem.Spec PyProof.Rows L2

/-! ### sums at places -/
/-! all unlike -/
end TN
namespace TN
open PySem PySem.Spec PyProof.Rows L2

/-! ### a drawn order -/
/-! the last of a list, put -/
end TN
namespace TN
open PySem PySem.Spec PyProof.Rows L2

/-! ### squares by drawn turns -/
end TN
namespace TN
open PySem PySem.Spec PyProof.Rows L2
/-! ### comprehensions that draw; held ones -/
/-! cuts of lists -/
end TN
namespace TN
open PySem PySem.Spec PyProof.Rows L2

/-! ### raise X() -/
/-! ### a caught exception is tracked -/
/-! ### try: body, except x as n: suite; n holds the exception, frozen -/
section
variable {X : Cx} {x n : Str} {c : Value} {i : Nat} {body suite : List Stmt} {b₀ : Stmt} {np pos pos' : Pos} {tb : WX → TS} {ts : TS} {Wout : WX}
end

/-! ### what is known of the classes -/
def exB (K : PySem.W.Frag) (cs : List Str) (x : Str) : Bool := He.eqO (PySem.W.nsIn K mainGlobals x) (some (some (.ref (He.ga K x)))) && (exC K (He.ga K x) && (exT K (He.ga K x) && (decide (PySem.W.exmOne K (.ref (He.ga K x)) (.ref (He.ga K ("TieError" : Str))) = some true) &&
  (decide (PySem.W.kitOne K (.ref (He.ga K x)) (.type "ValueError") = some true) && cs.all fun y => decide (PySem.W.kitOne K (.ref (He.ga K x)) (.ref (He.ga K y)) = some (x == y))))))
def exAll (cs : List Str) (K : PySem.W.Frag) : Bool := He.eqO (PySem.W.nsIn K mainGlobals ("TieError" : Str)) (some (some (.ref (He.ga K ("TieError" : Str))))) && cs.all (exB K cs)
/-! ### the catch -/
end TN
namespace TN
open PySem PySem.Spec PyProof.Rows L2 L2H

/-! ### defs that are called while an exception is handled -/
structure FnHot (P : Program) (w : World) (K : PySem.W.Frag) (mg : Str → Option Value) (base : Heap) (CX : CXT) (k : Nat) (f : Addr) (fd : FuncData) (ps : List Str) (sp : Sp) : Prop where
  len : ∀ vs H Q E, sp vs H Q E → vs.length = ps.length
  run : ∀ (A : Around) (outer : List Env) (s : Shared) (H : Hp) (args : Args) (us : List Value) (vs : List V) (Q : VK) (E : XK), RoomH k A → Env0 P w K mg base A outer s H → BindsTo s fd args (ps.zip us) → Vals vs us → sp vs H Q E →
    codeAny (model P w) A (.call (.ref f) args) (CR CX outer P w H s Q E) s
theorem FnHot.ok {P : Program} {w : World} {K : PySem.W.Frag} {mg : Str → Option Value} {base : Heap} {CX : CXT} {k : Nat} {f : Addr} {fd : FuncData} {ps : List Str} {sp : Sp} (F : FnHot P w K mg base CX k f fd ps sp) : FnOk P w K mg base CX k f fd ps sp :=
  ⟨F.len, fun A outer s H args us vs Q E hr => F.run A outer s H args us vs Q E (roomH_of hr)⟩
section
variable {X : Cx} {k n : Nat} {f : Addr} {fd : FuncData} {pn : List Str} {M : FM} {x : Str} {p pos : Pos} {e : Expr} {es : List Expr} {cr : CA}
end
/-! ### isinstance(e, C), e a caught exception -/
section
variable {X : Cx} {cs : List Str} {x : Expr} {c : CE} {C : Str} {p p2 pos : Pos}
end
end TN
namespace TN
open PySem PySem.Spec PyProof.Rows L2

/-! ### the head, with what is known of the exceptions' classes -/
abbrev AlX : Type := He.AlD × Bool
def obsX (n : Nat) (fa : List He.Fa) (fn : List He.DefD) (cs : List Str) (g : Addr → Option Obj) : AlX := (He.obsD fa fn (frN (He.frG g (He.asD g n))), exAll cs (frN (He.frG g (He.asD g n))))
end TN
namespace TN
open PySem PySem.Spec PyProof.Rows L2
/-! exceptions, plainly -/
/-! what is no place -/
end TN
namespace TN
open PySem PySem.Spec PyProof.Rows L2
end TN
namespace TN
open PySem PySem.Spec PyProof.Rows L2

/-! ### defs that hand out a tuple of values and of new lists -/
abbrev UI := List (D × Bool)
inductive UIs (K : PySem.W.Frag) (G H B : Hp) : List V → UI → Prop
  | nil : UIs K G H B [] []
  | cons {v : V} {vs : List V} {d : D} {b : Bool} {is : UI} : (b = false → Fz K G v d) → (b = true → ∃ a, v = .ref a ∧ G a = none ∧ B a = none ∧ Cont K G H a d) →
      (b = true → ∀ (j : Nat) (w : V) (d' : D), vs[j]? = some w → is[j]? = some (d', true) → w ≠ v) → UIs K G H B vs is → UIs K G H B (v :: vs) ((d, b) :: is)
theorem UIs.len {K : PySem.W.Frag} {G H B : Hp} : ∀ {vs : List V} {is : UI}, UIs K G H B vs is → vs.length = is.length
  | _, _, .nil => rfl
  | _, _, .cons _ _ _ r => by simp [r.len]
/-! ### the displayed tuple: new lists stay new -/
inductive PlAo (K : PySem.W.Frag) (B : Hp) (σ : L2.St) (ρ : Rho) (G H : Hp) : List V → List Pl → Prop
  | nil : PlAo K B σ ρ G H [] []
  | cons {v : V} {vs : List V} {p : Pl} {ps : List Pl} : PlOk K B σ ρ G H v p → (∀ d, p = .tmp d → ∀ (j : Nat) (w : V) (d' : D), vs[j]? = some w → ps[j]? = some (.tmp d') → w ≠ v) → PlAo K B σ ρ G H vs ps → PlAo K B σ ρ G H (v :: vs) (p :: ps)
theorem PlAo.len {K : PySem.W.Frag} {B : Hp} {σ : L2.St} {ρ : Rho} {G H : Hp} : ∀ {vs : List V} {ps : List Pl}, PlAo K B σ ρ G H vs ps → vs.length = ps.length
  | _, _, .nil => rfl
  | _, _, .cons _ _ r => by simp [r.len]
section
variable {X : Cx} {e : Expr} {es : List Expr} {c : CE} {r : CA}
end

/-! ### the items -/
/-! ### a body that ends with return (a, b, ..) -/
def GotU (X : Cx) (L : L2.St) (W : WX) (G B : Hp) (r : R UI) (Dn : Ends) : Prop := match r with
  | .ok is ρ' => ∀ (t : Addr) (us : List V) (σ' : L2.St) (H' G' : Hp), Rel X.K L B σ' ρ' G' H' → Ext B G G' → H' t = some (.tup us) → UIs X.K G' H' B us is →
      (∀ (j : Nat) (p : D × Md) (i : Nat) (w : V) (d' : D), ρ'[j]? = some (some p) → p.2.isFz = false → us[i]? = some w → is[i]? = some (d', true) → σ'[j]? ≠ some (some w)) → Dn.rt (.ref t) H'
  | .exc x ρ' => ∀ (cls : Value) (d : Option Addr) (σ' : L2.St) (H' G' : Hp), Rel X.K L B σ' ρ' G' H' → Ext B G G' → XcOk X B G' H' x cls d → W cls d σ' H'
  | .bad => False
theorem GotU.shift {X : Cx} {L : L2.St} {W : WX} {G G1 B : Hp} {r : R UI} {Dn : Ends} (e : Ext B G G1) (h : GotU X L W G B r Dn) : GotU X L W G1 B r Dn := by
  cases r with
  | ok is ρ' => exact fun t us σ' H' G' rel ext => h t us σ' H' G' rel (e.trans ext)
  | exc x ρ' => exact fun c d σ' H' G' rel ext ok => h c d σ' H' G' rel (e.trans ext) ok
  | bad => exact h
section
variable {X : Cx} {es : List Expr} {c : CS} {ca : CA} {pos pos' : Pos}
end
section
variable {P : Program} {w : World} {K : PySem.W.Frag} {mg : Str → Option Value} {base : Heap} {x qual : Str} {params : Arguments} {body : List Stmt} {scope : Scope} {f : Addr} {fd : FuncData}
end
/-! ### a, b, .. = f(..) -/
theorem GotS.args {X : Cx} {L : L2.St} {W : WX} {G B : Hp} {σ : L2.St} {r : R (List Pl)} {k : List Pl → Rho → RS} {Dn : Ends} (h : GotS X L W G B (match r with | .ok ps ρ1 => k ps ρ1 | .exc x ρ1 => .exc x ρ1 | .bad => .bad) Dn) :
    GotA X L W σ G B r (fun vs H1 => ∃ (ps : List Pl) (ρ1 : Rho) (G1 : Hp), r = .ok ps ρ1 ∧ Rel X.K L B σ ρ1 G1 H1 ∧ Ext B G G1 ∧ PlA X.K σ G1 vs ps ∧ GotS X L W G1 B (k ps ρ1) Dn) := by
  cases r with
  | ok p ρ1 => exact fun v H' G' rel ext ok => ⟨p, ρ1, G', rfl, rel, ext, ok, GotS.shift ext h⟩
  | exc x ρ' => exact fun c d H' G' rel ext ok => h c d σ H' G' rel ext ok
  | bad => exact h
end TN
namespace TN
open PySem PySem.Spec PyProof.Rows L2

/-! ### steps numberings, plainly -/
/-! ### the spine -/
end TN
namespace TN
open PySem PySem.Spec PyProof.Rows L2
/-! webs made with their steps numberings -/
end TN
namespace TN
open PySem PySem.Spec PyProof.Rows L2
/-! rings and sides -/
end TN
namespace TN
open PySem PySem.Spec PyProof.Rows L2
/-! renamed -/
end TN
namespace TN
open PySem PySem.Spec PyProof.Rows L2
end TN
namespace TN
open PySem PySem.Spec PyProof.Rows L2
end TN
namespace TN
open PySem PySem.Spec PyProof.Rows L2
/-! dicts of whole numbers as sets -/
/-! a steps numbering, by dicts -/
end TN
namespace TN
open PySem PySem.Spec PyProof.Rows L2
/-! the look by dicts -/
end TN
namespace TN
open PySem PySem.Spec PyProof.Rows L2
/-! what is made of a numbering -/
end TN
namespace TN
open PySem PySem.Spec PyProof.Rows L2
/-! parted steps numberings -/
/-! plainly -/
section
variable {n : Nat} {ts : List (Nat × Nat)} {ns : List Int}
/-! what they compute -/
end
end TN
namespace TN
open PySem PySem.Spec PyProof.Rows L2

/-! ### exceptions with fields: what must be known of their classes -/
def oexB (K : PySem.W.Frag) (C : Addr) : Bool := (match K.lookup C with
  | some ⟨.type "type", _, .cls cd, sl⟩ => (match cd.mro, sl.toList with
    | .ref C' :: bm, [_, _, _, _, some (.builtin n), _] => C' == C && (n == "ValueError.__new__" && (!cd.hasDel && (cd.hasDict && PySem.HandSPX.refsVE bm)))
    | _, _ => false)
  | _ => false) && (decide (PySem.W.findIn K (.ref C) "__setattr__" = some (some (.builtin "object.__setattr__"))) && (decide (PySem.W.subIn K (.ref C) (.type "BaseException") = some true) && (decide (PySem.W.typeIn K (.ref C) = some (.type "type")) && PySem.W.keepIn K (.ref C))))
def clsB (s : Stmt) : List Stmt := match s with
  | .ClassDef _ _ _ b _ _ _ _ _ _ _ => b
  | _ => []
/-- a class x with these fields -/
def iniA (K : PySem.W.Frag) (x : Str) : Addr := He.fAd K (x, some "__init__")
def oxB (K : PySem.W.Frag) (p : Str × List Str) : Bool := oexB K (He.ga K p.1) && (decide (PySem.W.findIn K (.ref (He.ga K p.1)) "__init__" = some (some (.ref (iniA K p.1)))) && (decide (PySem.W.typeIn K (.ref (iniA K p.1)) = some (.type "function")) &&
  p.2.all fun f => decide (PySem.W.findIn K (.ref (He.ga K p.1)) f = some none)))
def oxAll (rs : List (Str × List Str)) (K : PySem.W.Frag) : Bool := rs.all (oxB K)
/-! ### the head -/
abbrev AlY : Type := AlX × Bool
def obsY (n : Nat) (fa : List He.Fa) (fn : List He.DefD) (cs : List Str) (rs : List (Str × List Str)) (g : Addr → Option Obj) : AlY := (obsX n fa fn cs g, oxAll rs (frN (He.frG g (He.asD g n))))
/-! ### making one -/
section
variable {P : Program} {w : World} {K : PySem.W.Frag} {mg : Str → Option Value} {base : Heap} {x qual : Str} {params : Arguments} {body : List Stmt} {scope : Scope} {fd : FuncData}
end
/-! ### raise X(e, ..) -/
/-! ### e.f, e a caught exception -/
end TN
namespace TN
open PySem PySem.Spec PyProof.Rows L2
/-! webs joined by marks; round numberings as the laws look at them; the greatest divisor -/
section
variable {n : Nat} {ts : List (Nat × Nat)}
/-! a round numbering, as the laws look at it -/
end
/-! the greatest divisor -/
end TN
namespace TN
open PySem PySem.Spec PyProof.Rows L2
/-! spines with legs, and the cases of round numberings -/
end TN
namespace TN
open PySem PySem.Spec PyProof.Rows L2
end TN
namespace TN
open PySem PySem.Spec PyProof.Rows L2
theorem wok_sort {n : Nat} {F : List (Nat × Nat)} (h1 : 1 ≤ n) (h2 : n ≤ 1000) (h3 : F.length ≤ 1000) (h4 : ∀ t ∈ F, t.1 < n ∧ t.2 < n) : WebOk n (sortT F) :=
  ⟨h1, h2, by rw [(sortT_perm F).length_eq]; exact h3, fun t ht => h4 t ((sortT_perm F).mem_iff.mp ht)⟩
end TN
namespace TN
open PySem PySem.Spec PyProof.Rows L2
/-! pieces of webs -/
/-! marks, plainly -/
def mf (m : Nat → Nat) (t : Nat × Nat) : Nat → Nat := fun u => if m u = max (m t.1) (m t.2) then min (m t.1) (m t.2) else m u
def mkN (ts : List (Nat × Nat)) : Nat → Nat := ts.foldl mf id
/-! pieces, plainly -/
def cls (n : Nat) (ts : List (Nat × Nat)) (r : Nat) : List Nat := (List.range n).filter fun v => decide (mkN ts v = r)
/-! one piece -/
end TN
namespace TN
open PySem PySem.Spec PyProof.Rows L2
section
variable {n : Nat} {ts : List (Nat × Nat)}
/-! all pieces -/
end
end TN
namespace TN
open PySem PySem.Spec PyProof.Rows L2
/-! two sides of webs -/
section
variable {n : Nat} {ts : List (Nat × Nat)}
/-! the dict of sides -/
/-! the walk through the pieces -/
end
end TN
namespace TN
open PySem PySem.Spec PyProof.Rows L2
section
variable {n : Nat} {ts : List (Nat × Nat)}
end
end TN
namespace TN
open PySem PySem.Spec PyProof.Rows L2
/-! a, b = a list -/
end TN
namespace TN
open PySem PySem.Spec PyProof.Rows L2
/-! products: wide whole numbers, tuples so often -/
end TN
namespace TN
open PySem PySem.Spec PyProof.Rows L2
/-! is, is not: of a truth anything -/
end TN
namespace TN
open PySem PySem.Spec PyProof.Rows L2
/-! spines numbered from both ends -/
section
variable (legs : List Nat)
end
end TN
namespace TNO
open TN
open PySem PySem.Spec PyProof.Rows L2
/-! what is wanted of a run, told from its end: each step leads to what is wanted of the next -/
section
variable {α : Type} {ρ ρ1 ρ2 : Rho} {E : Xc → Rho → Prop} {d : D} {ds : List D} {i j : Nat}
/-! truths -/
section
variable {A B : Prop}
end
/-! looking -/
/-! expressions -/
section
variable {Q : Pl → Rho → Prop} {a b c : CE} {ca : CA}
end
/-! what is walked -/
section
variable {Q : List D → Rho → Prop} {a b c : CE}
end
/-! statements -/
section
variable {N : Rho → Prop} {T : D → Bool → Rho → Prop} {a b : CS} {c : CE} {t : CB} {g : D → Rho → Option Rho}
end
/-! targets -/
section
variable {N : Rho → Prop}
end
/-! comprehensions -/
section
variable {Q : Pl → Rho → Prop} {g : D → Rho → Option Rho} {t : CB} {e : CE} {vs : List Nat}
end
/-! calls -/
section
variable {Q : Pl → Rho → Prop} {M : FM} {ps : List Pl} {as : List (D × Md)} {outs : List Slot} {x : Xc}
end
section
end
/-! defs -/
section
variable {n m : Nat} {c : CS} {as : List (D × Md)} {fr : Bool} {r : FR} {o : List Slot} {x : Xc}
end
end
/-! what operators give, asked for from the end -/
section
variable {Q : Pl → Prop} {i j : Int} {a b : List D} {P : D → D → Prop} {x : D}
end
end TNO
namespace TN
open PySem PySem.Spec PyProof.Rows L2
/-! the same over words that nothing unfolds by itself -/
/-! what is wanted of a run, told from its end: each step leads to what is wanted of the next -/
section
variable {α : Type} {ρ ρ1 ρ2 : Rho} {E : Xc → Rho → Prop} {d : D} {ds : List D} {i j : Nat}
/-! truths -/
section
variable {A B : Prop}
end
/-! looking -/
/-! expressions -/
section
variable {Q : Pl → Rho → Prop} {a b c : CE} {ca : CA}
end
/-! what is walked -/
section
variable {Q : List D → Rho → Prop} {a b c : CE}
end
/-! statements -/
section
variable {N : Rho → Prop} {T : D → Bool → Rho → Prop} {a b : CS} {c : CE} {t : CB} {g : D → Rho → Option Rho}
end
/-! targets -/
section
variable {N : Rho → Prop}
end
/-! comprehensions -/
section
variable {Q : Pl → Rho → Prop} {g : D → Rho → Option Rho} {t : CB} {e : CE} {vs : List Nat}
end
/-! calls -/
section
variable {Q : Pl → Rho → Prop} {M : FM} {ps : List Pl} {as : List (D × Md)} {outs : List Slot} {x : Xc}
end
section
end
/-! defs -/
section
variable {n m : Nat} {c : CS} {as : List (D × Md)} {fr : Bool} {r : FR} {o : List Slot} {x : Xc}
end
end
/-! what operators give, asked for from the end -/
section
variable {Q : Pl → Prop} {i j : Int} {a b : List D} {P : D → D → Prop} {x : D}
end
end TN
namespace TN
open PySem PySem.Spec PyProof.Rows L2
section
variable {ρ ρ1 : Rho} {N : Rho → Prop} {T : D → Bool → Rho → Prop} {E : Xc → Rho → Prop} {g : D → Rho → Option Rho} {b : CS}
end
end TN
namespace TN
open PySem PySem.Spec PyProof.Rows L2
section
variable (legs : List Nat)
end
end TN
namespace TN
open PySem PySem.Spec PyProof.Rows L2
/-! parted numberings of trees, plainly -/
section
variable {n : Nat} {ts : List (Nat × Nat)} {ns : List Int} {lo : Int}
/-! the round numbering by it -/
end
/-! spines -/
section
variable (legs : List Nat)
end
end TN
namespace TN
open PySem PySem.Spec PyProof.Rows L2
end TN
namespace TN
open PySem PySem.Spec PyProof.Rows L2
/-! ### displays of dicts -/
section
variable {X : Cx}
section
variable {K : PySem.W.Frag} {L : L2.St} {B G H : Hp} {σ : L2.St} {ρ : Rho} {p : Addr} {o : HO}
end
end
end TN
namespace TN
open PySem PySem.Spec PyProof.Rows L2
/-! ### d.get(k, z) -/
section
variable {X : Cx}
end
/-! ### constants of the module: dicts of texts and ints -/
section
variable {X : Cx} {x : Str} {es : List (Str × Int)} {e : Expr} {c : CE} {pos p : Pos}
end
/-! ### the head, with these -/
end TN
namespace TN
open PySem PySem.Spec PyProof.Rows L2
/-! ### ties in order -/
def leT (a b : Nat × Nat) : Bool := decide (a.1 < b.1) || (decide (a.1 = b.1) && decide (a.2 ≤ b.2))
/-! ### kinds -/
/-- what a kind's ties are -/
structure KdW (n : Nat) (T : List (Nat × Nat)) : Prop where
  n1 : 1 ≤ n
  n40 : n ≤ 40
  t60 : T.length ≤ 60
  nd : T.Nodup
  lt : ∀ t ∈ T, t.1 < t.2 ∧ t.2 < n
theorem KdW.ok {n : Nat} {T : List (Nat × Nat)} (h : KdW n T) : WebOk n (sortT T) := by
  have h1 := h.n1
  have h2 := h.n40
  have h3 := h.t60
  exact wok_sort h1 (by omega) (by omega) fun t ht => by have := h.lt t ht; omega
end TN
namespace TN
open PySem PySem.Spec PyProof.Rows L2
end TN
namespace TN
open PySem PySem.Spec PyProof.Rows L2
end TN
namespace TN
open PySem PySem.Spec PyProof.Rows L2
/-! ### defs that hand out new lists in a tuple, from their end -/
/-! ### the law's webs of kinds -/
section
variable {C : Nat → Nat → Prop} [∀ a b, Decidable (C a b)]
end
end TN
namespace TN
open PySem PySem.Spec PyProof.Rows L2
/-! ### equal webs -/
/-! ### f(g(..), x) where g's list is lent -/
end TN
namespace TN
open PySem PySem.Spec PyProof.Rows L2
/-! ### steps numberings of kinds, plainly -/
/-! ### the package's runs -/
end TN
namespace TN
open PySem PySem.Spec PyProof.Rows L2
/-! steps_for, parted_for and the law's look at a steps numbering, as runs -/
end TN
namespace TN
open PySem PySem.Spec PyProof.Rows L2
/-! kinds compared, plainly -/
end TN
namespace TNO
open TN
open PySem PySem.Spec PyProof.Rows L2
/-! comprehensions over an own list, told from their end -/
end TNO
namespace TN
open PySem PySem.Spec PyProof.Rows L2
end TN
namespace TN
open PySem PySem.Spec PyProof.Rows L2
/-! ### copies that go round, plainly -/
section
variable {C M t t' : Nat} {p q : Int × Int}
end
/-! ### .. and as runs -/
end TN
namespace TNO
open TN
open PySem PySem.Spec PyProof.Rows L2
/-! i in range(..), told from its end -/
end TNO
namespace TN
open PySem PySem.Spec PyProof.Rows L2
end TN
namespace TN
open PySem PySem.Spec PyProof.Rows L2
end TN
namespace TN
open PySem PySem.Spec PyProof.Rows L2
/-! the sums of round numberings, turned and so often -/
section
variable {n : Nat} {ts : List (Nat × Nat)} {ns : List Int}
end
/-! ### bars of round numberings, plainly -/
section
variable {n : Nat} {ts : List (Nat × Nat)} {ns : List Int}
end
end TN
namespace TN
open PySem PySem.Spec PyProof.Rows L2
/-! ### how many pieces there are, plainly -/
end TN
namespace TN
open PySem PySem.Spec PyProof.Rows L2
/-! ### trees have two sides; pieces hold all places, once; plainly -/
end TN
namespace TN
open PySem PySem.Spec PyProof.Rows L2
/-! ### kinds by their words, plainly -/
def hubB (n : Nat) (ts : List (Nat × Nat)) : List Nat := (List.range n).filter fun k => decide (deg ts k + 1 = n)
end TN
namespace TN
open PySem PySem.Spec PyProof.Rows L2
/-! ### s.upper() -/
end TN
namespace TN
open PySem PySem.Spec PyProof.Rows L2
/-! ### kind_form of a thing of any form -/
end TN
namespace TN
open PySem PySem.Spec PyProof.Rows L2
/-! ### kinds by form, too great ones too -/
end TN
namespace TN
open PySem PySem.Spec PyProof.Rows L2
/-! ### kind_good of a thing of any form -/
end TN
namespace TNO
open TN
open PySem PySem.Spec PyProof.Rows L2
/-! d.get(k, z), told from its end -/
end TNO
namespace TN
open PySem PySem.Spec PyProof.Rows L2
end TN
/-! ### enumerate(reversed(xs)) -/
namespace PySem
open Sem (wp)
open AutoSeq1 (wpAny_loadPart')
section
variable {prog : Program} {w : World} {A : Around} {E : Value → Shared → Prop} {s : Shared}
end
section
variable {prog : Program} {w : World} {A : Around} {E : Value → Shared → Prop} {s : Shared}
end
end PySem
namespace TN
open PySem PySem.Spec PyProof.Rows L2
section
variable {X : Cx} {e : Expr} {c : CE} {p pos : Pos}
end
end TN
namespace TNO
open PySem PySem.Spec PyProof.Rows L2 TN
end TNO
namespace TN
open PySem PySem.Spec PyProof.Rows L2
end TN
/-! ### zip of a list with a tuple, of a tuple with a list (printed by mkL90.py) -/
namespace PySem
open Sem (wp)
section
variable {prog : Program} {w : World} {A : Around} {E : Value → Shared → Prop} {s : Shared}
end
end PySem
namespace PySem
open Sem (wp)
section
variable {prog : Program} {w : World} {A : Around} {E : Value → Shared → Prop} {s : Shared}
end
end PySem
namespace TN
open PySem PySem.Spec PyProof.Rows L2
end TN
namespace TN
open PySem PySem.Spec PyProof.Rows L2
end TN
namespace TN
open PySem PySem.Spec PyProof.Rows L2
end TN
namespace TN
open PySem PySem.Spec PyProof.Rows L2
end TN
namespace TN
open PySem PySem.Spec PyProof.Rows L2
section
variable {X : Cx} {e e2 : Expr} {c c2 : CE} {p pos : Pos}
end
end TN
namespace TNO
open PySem PySem.Spec PyProof.Rows L2 TN
end TNO
namespace TN
open PySem PySem.Spec PyProof.Rows L2
end TN
/-! ### set(a) == set(b), of whole numbers -/
namespace PySem
open Sem (wp)
section
variable {prog : Program} {w : World} {A : Around} {E : Value → Shared → Prop} {s : Shared}
end
end PySem
namespace TN
open PySem PySem.Spec PyProof.Rows L2
section
variable {X : Cx} {a b : Expr} {ca cb : CE} {p p2 q q2 pos : Pos}
end
end TN
namespace TNO
open PySem PySem.Spec PyProof.Rows L2 TN
end TNO
namespace TN
open PySem PySem.Spec PyProof.Rows L2
end TN
/-! ### min(a, b, c) -/
namespace TN
open PySem PySem.Spec PyProof.Rows L2
end TN
namespace TN
open PySem PySem.Spec PyProof.Rows L2
/-! ### bars -/
section
variable {n : Nat} {ts : List (Nat × Nat)}
/-! ### round_from, by the package -/
end
/-! ### round_for -/
end TN
namespace TN
open PySem PySem.Spec PyProof.Rows L2
/-! ### the laws' look at bars -/
def lcI (n : Nat) (ts : List (Nat × Nat)) : List Int := (List.range n).map fun k => ((deg ts k : Nat) : Int)
section
variable {n : Nat} {ts : List (Nat × Nat)}
end
end TN
namespace TN
open PySem PySem.Spec PyProof.Rows L2
section
variable {n : Nat} {ts : List (Nat × Nat)}
end
/-! ### the webs of the laws on bars -/
end TN
namespace TNO
open PySem PySem.Spec PyProof.Rows L2 TN
end TNO
namespace TN
open PySem PySem.Spec PyProof.Rows L2
end TN
namespace TN
open PySem PySem.Spec PyProof.Rows L2
/-! ### orders -/
/-! ### total_span -/
end TN
namespace TN
open PySem PySem.Spec PyProof.Rows L2
/-! ### total numberings -/
section
variable {n : Nat} {ts : List (Nat × Nat)} {P T : List Int}
/-! bars -/
end

end TN
/-! ### isinstance(x, (list, tuple)) -/
namespace TN
open PySem PySem.Spec PyProof.Rows L2
section
variable {X : Cx} {e : Expr} {te : TE} {c : CE} {p p2 p3 pos tpos : Pos}
end
end TN
namespace TN
open PySem PySem.Spec PyProof.Rows L2
/-! ### unlike numberings: the package's ways -/
section
variable {n : Nat} {ts : List (Nat × Nat)}
/-- the hubs -/
def hubL (n : Nat) (ts : List (Nat × Nat)) : List Nat := (lcI n ts).zipIdx.filterMap fun p => if decide (p.1 = (n : Int) - 1) = true then some p.2 else none
end
/-! the laws' sums -/
section
variable {n : Nat} {ts : List (Nat × Nat)}
end

end TN
namespace TN
open PySem PySem.Spec PyProof.Rows L2
section
variable {n : Nat} {ts : List (Nat × Nat)}
end
end TN
namespace TN
open PySem PySem.Spec PyProof.Rows L2
/-! ### numbers put by a hub: the sums are unlike -/
section
variable {n : Nat} {ts : List (Nat × Nat)}
/-- a web with a hub, as the package takes it -/
structure HubW (n : Nat) (ts : List (Nat × Nat)) (hb : Nat) : Prop where
  n3 : 3 ≤ n
  lt : ∀ t ∈ ts, t.1 < t.2 ∧ t.2 < n
  nd : ts.Nodup
  hn : hb < n
  dg : deg ts hb + 1 = n
variable {hb : Nat}
end
end TN
namespace TN
open PySem PySem.Spec PyProof.Rows L2
/-! ### unlike_by by a hub, unlike_for of kinds -/
section
variable {n : Nat} {ts : List (Nat × Nat)} {hb : Nat}
theorem hubL_B : hubL n ts = hubB n ts := by
  unfold hubL hubB lcI
  have e : ((List.range n).map fun k => ((deg ts k : Nat) : Int)).zipIdx = (List.range n).map fun k => (((deg ts k : Nat) : Int), k) := by
    apply List.ext_getElem
    · simp
    · intro i h1 h2
      simp
  rw [e, List.filterMap_map]
  generalize List.range n = R
  induction R with
  | nil => rfl
  | cons k R ih =>
    rw [List.filterMap_cons, List.filter_cons]
    simp only [Function.comp_apply]
    by_cases h : deg ts k + 1 = n
    · have h1 : ((deg ts k : Nat) : Int) = (n : Int) - 1 := by omega
      rw [decide_eq_true h, decide_eq_true h1]
      simpa using ih
    · have h1 : ¬ ((deg ts k : Nat) : Int) = (n : Int) - 1 := by omega
      rw [decide_eq_false h, decide_eq_false h1]
      simpa using ih
theorem HubW.of (h3 : 3 ≤ n) (lt : ∀ t ∈ ts, t.1 < t.2 ∧ t.2 < n) (nd : ts.Nodup) {r : List Nat} (hh : hubL n ts = hb :: r) : HubW n ts hb := by
  have hm : hb ∈ hubB n ts := by rw [← hubL_B, hh]; exact List.mem_cons_self ..
  obtain ⟨h1, h2⟩ := List.mem_filter.mp hm
  exact ⟨h3, lt, nd, List.mem_range.mp h1, of_decide_eq_true h2⟩
end
section
variable {n : Nat} {ts : List (Nat × Nat)}
end
end TN
namespace TN
open PySem PySem.Spec PyProof.Rows L2

/-! ### a comprehension over a name's own dict of tuple keys: the dict is held and locked -/
section
variable {K : PySem.W.Frag} {L : L2.St} {B G G1 H H1 : Hp} {σ : L2.St} {ρ : Rho} {a : Addr} {o : HO} {xs : List V} {ds : List D} {j : Nat} {m : Md}
end
section
variable {X : Cx} {elt tg iter : Expr} {ifs : List Expr} {scope : Scope} {own : List (Str × Nat)} {pos : Pos} {ci : CI} {g : D → Rho → Option Rho} {t : CB} {e : CE}
end
end TN
namespace TNO
open TN
open PySem PySem.Spec PyProof.Rows L2
/-! comprehensions over an own dict of ties, told from their end -/
end TNO
namespace TN
open PySem PySem.Spec PyProof.Rows L2
/-! ### the laws' webs with a hub -/
end TN
namespace TN
open PySem PySem.Spec PyProof.Rows L2
/-! ### numbers handed to unlike_by: lists, tuples, in any order; what is none -/
end TN
/-! ### t.index(k), t a tuple of whole numbers, k one of them -/
namespace TN
open PySem PySem.Spec PyProof.Rows L2
section
variable {X : Cx} {o e : Expr} {es : List Expr} {co : CE} {ca : CA} {apos cpos : Pos} {id : String} {name : Str} {r : V → List V → Hp → VK → Prop} {f : D → List D → Option Pl}
end
end TN
namespace TNO
open PySem PySem.Spec PyProof.Rows L2 TN
end TNO
namespace TN
open PySem PySem.Spec PyProof.Rows L2
end TN
namespace TN
open PySem PySem.Spec PyProof.Rows L2
/-! the package's growing, bars, mirrors, joins -/
/-! ### webs grown -/
end TN
namespace TN
open PySem PySem.Spec PyProof.Rows L2
/-! ### the bars of steps -/
end TN
namespace TN
open PySem PySem.Spec PyProof.Rows L2
/-! ### f(a, b, g(..)): the last of three arguments a new list, lent -/
section
variable {X : Cx} {k : Nat} {f : Addr} {fd : FuncData} {pn : List Str} {M : FM} {x : Str} {p pos : Pos} {a b e : Expr} {c1 c2 c3 : CE}
end
end TN
namespace TNO
open PySem PySem.Spec PyProof.Rows L2 TN
end TNO
namespace TN
open PySem PySem.Spec PyProof.Rows L2
end TN
namespace TN
open PySem PySem.Spec PyProof.Rows L2
/-! ### webs joined at a place -/
section
variable {n m : Nat} {ts us : List (Nat × Nat)} {N M : List Int} {t u : Int}
end
end TN
namespace TNO
open PySem PySem.Spec PyProof.Rows L2 TN
end TNO
namespace TN
open PySem PySem.Spec PyProof.Rows L2
/-! ### joined_webs run -/
section
variable {n m : Nat} {ts us : List (Nat × Nat)} {N M : List Int} {t : Int}
end
end TN
namespace TN
open PySem PySem.Spec PyProof.Rows L2
/-! ### what is good is such; joined webs, whole -/
section
variable {n m : Nat} {ts us : List (Nat × Nat)} {N M : List Int} {t u : Int}
end
end TN
namespace TN
open PySem PySem.Spec PyProof.Rows L2
/-! ### the laws' parted webs -/
end TN
namespace TN
open PySem PySem.Spec PyProof.Rows L2

/-! ### repr: defs that are called where nothing is being shown -/
structure RoomG (k : Nat) (A : Around) : Prop where
  rm : Room k A
  gd : A.guards = some []
section
variable {X : Cx} {k : Nat}
end
/-! ### {} == a tuple -/
open Sem in
open Sem in
section
variable {X : Cx} {k : Nat}
end
/-! ### such defs -/
structure FnG (P : Program) (w : World) (K : PySem.W.Frag) (mg : Str → Option Value) (base : Heap) (CX : CXT) (k : Nat) (f : Addr) (fd : FuncData) (ps : List Str) (sp : L2.Sp) : Prop where
  len : ∀ vs H Q E, sp vs H Q E → vs.length = ps.length
  run : ∀ (A : Around) (outer : List Env) (s : Shared) (H : Hp) (args : Args) (us : List Value) (vs : List V) (Q : VK) (E : XK), RoomG k A → Env0 P w K mg base A outer s H → BindsTo s fd args (ps.zip us) → Vals vs us → sp vs H Q E →
    codeAny (model P w) A (.call (.ref f) args) (CR CX outer P w H s Q E) s
theorem FnG.of {P : Program} {w : World} {K : PySem.W.Frag} {mg : Str → Option Value} {base : Heap} {CX : CXT} {k : Nat} {f : Addr} {fd : FuncData} {ps : List Str} {sp : L2.Sp} (F : FnOk P w K mg base CX k f fd ps sp) : FnG P w K mg base CX k f fd ps sp :=
  ⟨F.len, fun A outer s H args us vs Q E hr => F.run A outer s H args us vs Q E hr.rm⟩
section
variable {X : Cx} {k n : Nat} {f : Addr} {fd : FuncData} {pn : List Str} {M : FM} {x : Str} {p pos : Pos} {e : Expr} {es : List Expr} {cr : CA}
end
/-! ### the top: nothing is being shown there -/
/-! ### sum(range(..)) -/
section
variable {prog : Program} {w : World} {A : Around} {E : Value → Shared → Prop} {s : Shared} {r : Addr} {a b : Int} {t u v : Tok} {Q : Value → Shared → Prop}
end
section
variable {X : Cx} {e : Expr} {cr : Rho → R (Int × Int)} {p pos : Pos} {te : L2.St → Hp → (Int → Int → Hp → Prop) → Prop}
end
end TN
namespace TN
open PySem PySem.Spec PyProof.Rows L2
/-! ### list(d.values()) -/
section
variable {X : Cx} {e o : Expr} {ta td : TE} {p pos apos mpos : Pos} {c : CE}
end
/-! ### words of the module -/
section
variable {X : Cx} {x : Str} {ws : List Str} {e tg : Expr} {c : CE} {pos p : Pos}
end
/-! ### the head, with these -/
/-! ### walks -/
end TN
namespace TN
open PySem PySem.Spec PyProof.Rows L2
/-! ### a piece with two sides (theory) -/
section
variable {n : Nat} {ts : List (Nat × Nat)} {p : Nat}
/-! the piece by itself -/
/-! the law's walk through the piece -/
end
end TN
namespace TN
open PySem PySem.Spec PyProof.Rows L2
end TN
namespace TN
open PySem PySem.Spec PyProof.Rows L2
section
variable {n : Nat} {ts : List (Nat × Nat)} {p : Nat}
/-! ### the even bars, each looked at -/
end
end TN
namespace TN
open PySem PySem.Spec PyProof.Rows L2
section
variable {n : Nat} {ts : List (Nat × Nat)} {p : Nat}
/-! ### the law's two sides -/
end
end TN
namespace TN
open PySem PySem.Spec PyProof.Rows L2
section
variable {n : Nat} {ts : List (Nat × Nat)} {p : Nat}
end
end TN
namespace TN
open PySem PySem.Spec PyProof.Rows L2
section
variable {n : Nat} {ts : List (Nat × Nat)} {p : Nat}
end
end TN
namespace TN
open PySem PySem.Spec PyProof.Rows L2
section
variable {n : Nat} {ts : List (Nat × Nat)}
end
end TN
namespace TN
open PySem PySem.Spec PyProof.Rows L2
section
variable {n : Nat} {ts : List (Nat × Nat)}
end
end TN
namespace TN
open PySem PySem.Spec PyProof.Rows L2
section
variable {n : Nat} {ts : List (Nat × Nat)} {p : Nat}
end
end TN
namespace TN
open PySem PySem.Spec PyProof.Rows L2
end TN
namespace TN
open PySem PySem.Spec PyProof.Rows L2
section
variable {n : Nat} {ts : List (Nat × Nat)}
end
end TN
namespace TN
open PySem PySem.Spec PyProof.Rows L2
/-! ### an even numbering leaves no bar -/
def psE (Z : List ((Nat × Nat) × Int)) (v : Nat) : Int := (Z.map fun q => if hasP q.1 v = true then q.2 else 0).sum
/-! sums over places -/
/-! distinct numbers -/
end TN
namespace TN
open PySem PySem.Spec PyProof.Rows L2
structure EvN (n : Nat) (ts : List (Nat × Nat)) (Z : List ((Nat × Nat) × Int)) (s : Int) : Prop where
  n1 : 1 ≤ n
  l1 : 1 ≤ ts.length
  lt : ∀ t ∈ ts, t.1 < t.2 ∧ t.2 < n
  nd : ts.Nodup
  e1 : Z.map (·.1) = ts
  nd2 : (Z.map (·.2)).Nodup
  rg : ∀ q ∈ Z, 1 ≤ q.2 ∧ q.2 ≤ (ts.length : Int)
  tot : 2 * (Z.map (·.2)).sum = (ts.length : Int) * ((ts.length : Int) + 1)
  al : ∀ v, v < n → psE Z v = s
section
variable {n : Nat} {ts : List (Nat × Nat)} {Z : List ((Nat × Nat) × Int)} {s : Int}
theorem EvN.tie (e : EvN n ts Z s) {q : (Nat × Nat) × Int} (hq : q ∈ Z) : q.1 ∈ ts := by rw [← e.e1]; exact List.mem_map.mpr ⟨q, hq, rfl⟩
end
end TN
namespace TN
open PySem PySem.Spec PyProof.Rows L2
/-! ### a list that is lent gone through by for, and lent still behind -/
section
variable {X : Cx} {st : Stmt} {sts : List Stmt} {a b : CS} {j : Nat}
end
section
variable {P : Program} {w : World} {K : PySem.W.Frag} {mg : Str → Option Value} {base : Heap} {x qual : Str} {params : Arguments} {body : List Stmt} {scope : Scope} {f : Addr} {fd : FuncData}
end
end TN
namespace TNO
open PySem PySem.Spec PyProof.Rows L2 TN
end TNO
namespace TN
open PySem PySem.Spec PyProof.Rows L2
end TN
namespace TNO
open PySem PySem.Spec PyProof.Rows L2 TN
/-! exceptions that leave known slots behind -/
end TNO
namespace TN
open PySem PySem.Spec PyProof.Rows L2
/-! a tie in a list of ties; a list of two in a list of such -/
end TN
namespace TN
open PySem PySem.Spec PyProof.Rows L2
end TN
namespace TN
open PySem PySem.Spec PyProof.Rows L2
/-! ### texts: split, join, slices, int(text), a sign in a text, a module's text -/
/-! slices of texts -/
/-! tuples of whole numbers, in order -/
end TN
namespace TNO
open PySem PySem.Spec PyProof.Rows L2 TN
end TNO
namespace TN
open PySem PySem.Spec PyProof.Rows L2
end TN
namespace TN
open PySem PySem.Spec PyProof.Rows L2
/-! ### texts of webs, plainly -/
theorem len_strs (a b : Str) : (a ++ b).length = a.length + b.length := PySem.Str.length_append ..
abbrev numZ (n : Nat) : Str := ((toString ((n : Nat) : Int) : String) : Str)
theorem tl_numZ (n : Nat) : TL.tl (numZ n) = TL.numL n := TL.tl_num n
theorem len_numZ {n : Nat} (h : n < 100) : (numZ n).length ≤ 2 := by
  have := TL.numL_len (n := n) (k := 2) (by decide) (by omega)
  rw [← tl_numZ] at this
  simpa [TL.tl, PySem.Str.length] using this
/-- joined -/
theorem join_len (y : Str) : ∀ ps : List Str, (Str.join y ps).length ≤ (ps.map (·.length)).sum + ps.length * y.length
  | [] => Nat.zero_le _
  | [p] => by show p.length ≤ _; simp only [List.map_cons, List.map_nil, List.sum_cons, List.sum_nil]; omega
  | p :: q :: r => by
    have ih := join_len y (q :: r)
    show (p ++ y ++ Str.join y (q :: r)).length ≤ _
    rw [len_strs, len_strs]
    simp only [List.map_cons, List.sum_cons, List.length_cons] at ih ⊢
    rw [Nat.add_mul, Nat.one_mul]
    omega
/-- the rows of a web's text -/
def rowWS (n : Nat) : Str := Str.join " " ["web", numZ n]
def rowTS (t : Nat × Nat) : Str := Str.join " " ["tie", numZ t.1, numZ t.2]
def textS (n : Nat) (ts : List (Nat × Nat)) : Str := Str.join "\n" (rowWS n :: ts.map rowTS)
theorem rowW_cat (n : Nat) : ("web " : Str) ++ numZ n = rowWS n := by
  refine TL.ext_tl ?_
  show _ = TL.tl (("web" : Str) ++ (" " : Str) ++ numZ n)
  simp only [TL.tl_append]
  rfl
theorem rowT_cat (t : Nat × Nat) : ((("tie " : Str) ++ numZ t.1) ++ (" " : Str)) ++ numZ t.2 = rowTS t := by
  refine TL.ext_tl ?_
  show _ = TL.tl (("tie" : Str) ++ (" " : Str) ++ (numZ t.1 ++ (" " : Str) ++ numZ t.2))
  simp only [TL.tl_append, List.append_assoc]
  rfl
theorem rowW_len {n : Nat} (h : n < 100) : (rowWS n).length ≤ 6 := by
  rw [← rowW_cat, len_strs]
  have := len_numZ h
  have e : ("web " : Str).length = 4 := rfl
  omega
theorem rowT_len {t : Nat × Nat} (h1 : t.1 < 100) (h2 : t.2 < 100) : (rowTS t).length ≤ 9 := by
  rw [← rowT_cat, len_strs, len_strs, len_strs]
  have := len_numZ h1
  have := len_numZ h2
  have e : ("tie " : Str).length = 4 := rfl
  have e : (" " : Str).length = 1 := rfl
  omega
theorem sum_len {ps : List Str} {k : Nat} (h : ∀ p ∈ ps, p.length ≤ k) : (ps.map (·.length)).sum ≤ ps.length * k := by
  induction ps with
  | nil => simp
  | cons p ps ih =>
    have := ih fun x hx => h x (List.mem_cons_of_mem _ hx)
    have := h p (List.mem_cons_self ..)
    simp only [List.map_cons, List.sum_cons, List.length_cons]
    rw [Nat.add_mul, Nat.one_mul]
    omega
/-- webs as they are written -/
structure TxW (n : Nat) (ts : List (Nat × Nat)) : Prop where
  n1 : 1 ≤ n
  n40 : n ≤ 40
  t60 : ts.length ≤ 60
  lt : ∀ t ∈ ts, t.1 < t.2 ∧ t.2 < n
  pw : ts.Pairwise fun a b => leT b a = false
theorem TxW.ok {n : Nat} {ts : List (Nat × Nat)} (h : TxW n ts) : WebOk n ts := ⟨h.n1, by have := h.n40; omega, by have := h.t60; omega, fun t ht => by have := h.lt t ht; omega⟩
theorem TxW.lens {n : Nat} {ts : List (Nat × Nat)} (h : TxW n ts) : ((rowWS n :: ts.map rowTS).map (·.length)).sum + (rowWS n :: ts.map rowTS).length * 1 ≤ 1000 := by
  have h1 := h.n40
  have h2 := h.t60
  have := sum_len (ps := rowWS n :: ts.map rowTS) (k := 9) (fun p hp => by
    rcases List.mem_cons.mp hp with rfl | hp
    · have := rowW_len (n := n) (by omega); omega
    · obtain ⟨t, ht, rfl⟩ := List.mem_map.mp hp
      have := h.lt t ht
      exact rowT_len (by omega) (by omega))
  rw [List.length_cons, List.length_map] at this ⊢
  omega
theorem TxW.len {n : Nat} {ts : List (Nat × Nat)} (h : TxW n ts) : (textS n ts).length ≤ 1000 := Nat.le_trans (join_len _ _) h.lens
end TN
namespace TN
open PySem PySem.Spec PyProof.Rows L2
/-! a text so many times -/
end TN
namespace TN
open PySem PySem.Spec PyProof.Rows L2

/-! ### objects of own classes: what must be known of a class with these fields -/
def obB (K : PySem.W.Frag) (p : Str × List Str) : Bool := (He.Fa.cls p.1).ok K && (decide (PySem.W.findIn K (.ref (He.ga K p.1)) "__class__" = some (some (.builtin "object.__class__"))) && (decide (PySem.W.specialIn K (.builtin "object.__class__") "__get__" = some (some (.builtin "getset_descriptor.__get__"))) &&
  (decide (PySem.W.takesIn K (.builtin "object.__class__") = some true) && (decide (PySem.W.mroIn K (He.ga K p.1) (.type "object") = some true) && (exT K (He.ga K p.1) && p.2.all fun f => (He.Fa.noat p.1 f).ok K)))))
def obAll (os : List (Str × List Str)) (K : PySem.W.Frag) : Bool := os.all (obB K)
/-! ### the head -/
abbrev AlO : Type := AlY × Bool
def obsO (n : Nat) (fa : List He.Fa) (fn : List He.DefD) (cs : List Str) (rs os : List (Str × List Str)) (g : Addr → Option Obj) : AlO := (obsY n fa fn cs rs g, obAll os (frN (He.frG g (He.asD g n))))
def hookO (n : Nat) (fa : List He.Fa) (fn : List He.DefD) (cs : List Str) (rs os : List (Str × List Str)) : PySem.W.Hook where
  α := AlO
  obs := fun s => obsO n fa fn cs rs os s.heap.get?
  val := fun _ => (((He.valD fn, true), true), true)
  says := fun _ h => ∃ K : PySem.W.Frag, K.In h ∧ NoLst K ∧ He.SaysD fa fn K ∧ exAll cs K = true ∧ oxAll rs K = true ∧ obAll os K = true
  of := fun _ _ e => ⟨_, frN_in, frN_no _, congrArg (fun z : AlO => z.1.1.1) e, congrArg (fun z : AlO => z.1.1.2) e, congrArg (fun z : AlO => z.1.2) e, congrArg Prod.snd e⟩
  keeps := fun _ _ _ ⟨K, hK, n, c⟩ k => ⟨K, PySem.W.Frag.In.keeps hK k, n, c⟩
/-! ### fields -/
theorem FzN.len {K : PySem.W.Frag} {G : Hp} : ∀ {fs : List (Str × V)} {ds : List (Str × D)}, FzN K G fs ds → fs.length = ds.length
  | _, _, .nil => rfl
  | _, _, .cons _ b => by simp [b.len]
section
variable {X : Cx} {x : Str} {value : Expr} {c : CE} {f : Str} {px pos pos' : Pos} {os : List (Str × List Str)}
end

/-! ### methods -/
section
variable {X : Cx} {CX : CXT} {k : Nat} {f C : Addr} {fd : FuncData} {ps : List Str} {sp : L2.Sp} {E : L2.St → XK} {x m : Str} {p pos apos : Pos} {e o : Expr} {es : List Expr} {ta : TE} {t : TA}
end
section
variable {X : Cx} {k n : Nat} {cls m x : Str} {M : FM} {p px pos apos : Pos} {e : Expr} {es : List Expr} {cr : CA}
end
/-! ### C(..) -/
section
variable {X : Cx} {k n : Nat} {cls x : Str} {M : FM} {p pos : Pos} {e : Expr} {es : List Expr} {cr : CA}
end

/-! ### methods and makers by their meanings -/
section
variable {P : Program} {w : World} {K : PySem.W.Frag} {mg : Str → Option Value} {base : Heap} {cls m qual : Str} {params : Arguments} {body : List Stmt} {scope : Scope} {fd : FuncData} {k n : Nat} {N ps : List Str} {c : CS}
end
end TN
namespace K68
open PySem PySem.Spec PyProof.Rows L2 TN
def XS : List Str := ["NoPlace", "NoKind", "NoNumber", "TooGreat"]
def OS : List (Str × List Str) := [("Trier", ["web", "found", "first"])]
def RS : List (Str × List Str) := [("TooGreat", ["many", "most"])]
end K68
namespace K68
open PySem PySem.Spec PyProof.Rows L2 TN
/-! the two ways through all orders -/
end K68
namespace K68
open TN
open PySem PySem.Spec PyProof.Rows L2
section
variable {n : Nat} {ts : List (Nat × Nat)}
end
end K68
namespace K68
open TN
open PySem PySem.Spec PyProof.Rows L2
section
variable {n : Nat} {ts : List (Nat × Nat)}
end
end K68
namespace K68
open PySem PySem.Spec PyProof.Rows L2 TN
section
variable {n : Nat} {ts : List (Nat × Nat)}
end
section
variable {n : Nat} {ts : List (Nat × Nat)}
end
end K68
namespace K68
open PySem PySem.Spec PyProof.Rows L2 TN
section
variable {n : Nat} {ts : List (Nat × Nat)}
end
end K68
namespace K68
open PySem PySem.Spec PyProof.Rows L2 TN
end K68
namespace K68
open PySem PySem.Spec PyProof.Rows L2 TN
abbrev prog : Program := PySem.Challenge.pw_tienumbers_k68_whole_no_bar_and_unlike
def top (i : Nat) : Stmt := prog.main.body.getD i (.Pass ⟨0, 0, 0, 0⟩)
abbrev s__law_orders : Stmt := top 36
def d__law_orders : He.DefD := ⟨("_law_orders", none), "_law_orders", "_law_orders", defArgs s__law_orders, defBody s__law_orders, defScope s__law_orders, [], []⟩
abbrev s__law_sums_of : Stmt := top 34
def d__law_sums_of : He.DefD := ⟨("_law_sums_of", none), "_law_sums_of", "_law_sums_of", defArgs s__law_sums_of, defBody s__law_sums_of, defScope s__law_sums_of, [], []⟩
abbrev s__law_unlike : Stmt := top 35
def d__law_unlike : He.DefD := ⟨("_law_unlike", none), "_law_unlike", "_law_unlike", defArgs s__law_unlike, defBody s__law_unlike, defScope s__law_unlike, [], []⟩
abbrev s_is_whole : Stmt := top 7
def d_is_whole : He.DefD := ⟨("is_whole", none), "is_whole", "is_whole", defArgs s_is_whole, defBody s_is_whole, defScope s_is_whole, [], []⟩
abbrev s_are_numbers : Stmt := top 13
def d_are_numbers : He.DefD := ⟨("are_numbers", none), "are_numbers", "are_numbers", defArgs s_are_numbers, defBody s_are_numbers, defScope s_are_numbers, [], []⟩
abbrev s_sums_at : Stmt := top 16
def d_sums_at : He.DefD := ⟨("sums_at", none), "sums_at", "sums_at", defArgs s_sums_at, defBody s_sums_at, defScope s_sums_at, [], []⟩
abbrev s_sums_unlike : Stmt := top 17
def d_sums_unlike : He.DefD := ⟨("sums_unlike", none), "sums_unlike", "sums_unlike", defArgs s_sums_unlike, defBody s_sums_unlike, defScope s_sums_unlike, [], []⟩
abbrev s_unlike_good : Stmt := top 18
def d_unlike_good : He.DefD := ⟨("unlike_good", none), "unlike_good", "unlike_good", defArgs s_unlike_good, defBody s_unlike_good, defScope s_unlike_good, [], []⟩
abbrev s_Trier___init__ : Stmt := (clsB (top 25)).getD 0 (.Pass ⟨0, 0, 0, 0⟩)
def d_Trier___init__ : He.DefD := ⟨("Trier", some "__init__"), "__init__", "Trier.__init__", defArgs s_Trier___init__, defBody s_Trier___init__, defScope s_Trier___init__, [], []⟩
abbrev s_Trier_go : Stmt := (clsB (top 25)).getD 1 (.Pass ⟨0, 0, 0, 0⟩)
def d_Trier_go : He.DefD := ⟨("Trier", some "go"), "go", "Trier.go", defArgs s_Trier_go, defBody s_Trier_go, defScope s_Trier_go, [], []⟩
abbrev s_tried : Stmt := top 26
def d_tried : He.DefD := ⟨("tried", none), "tried", "tried", defArgs s_tried, defBody s_tried, defScope s_tried, [], []⟩
abbrev s_unlike_count : Stmt := top 27
def d_unlike_count : He.DefD := ⟨("unlike_count", none), "unlike_count", "unlike_count", defArgs s_unlike_count, defBody s_unlike_count, defScope s_unlike_count, [], []⟩
abbrev s_check_place : Stmt := top 8
def d_check_place : He.DefD := ⟨("check_place", none), "check_place", "check_place", defArgs s_check_place, defBody s_check_place, defScope s_check_place, [], []⟩
abbrev s_ties_at : Stmt := top 9
def d_ties_at : He.DefD := ⟨("ties_at", none), "ties_at", "ties_at", defArgs s_ties_at, defBody s_ties_at, defScope s_ties_at, [], []⟩
abbrev s_tie_counts : Stmt := top 10
def d_tie_counts : He.DefD := ⟨("tie_counts", none), "tie_counts", "tie_counts", defArgs s_tie_counts, defBody s_tie_counts, defScope s_tie_counts, [], []⟩
abbrev s_unlike_bar_holds : Stmt := top 23
def d_unlike_bar_holds : He.DefD := ⟨("unlike_bar_holds", none), "unlike_bar_holds", "unlike_bar_holds", defArgs s_unlike_bar_holds, defBody s_unlike_bar_holds, defScope s_unlike_bar_holds, [], []⟩
abbrev s_unlike_bar : Stmt := top 24
def d_unlike_bar : He.DefD := ⟨("unlike_bar", none), "unlike_bar", "unlike_bar", defArgs s_unlike_bar, defBody s_unlike_bar, defScope s_unlike_bar, [], []⟩
abbrev s_hubs_of : Stmt := top 11
def d_hubs_of : He.DefD := ⟨("hubs_of", none), "hubs_of", "hubs_of", defArgs s_hubs_of, defBody s_hubs_of, defScope s_hubs_of, [], []⟩
abbrev s_need_hub : Stmt := top 19
def d_need_hub : He.DefD := ⟨("need_hub", none), "need_hub", "need_hub", defArgs s_need_hub, defBody s_need_hub, defScope s_need_hub, [], []⟩
abbrev s_by_hub : Stmt := top 21
def d_by_hub : He.DefD := ⟨("by_hub", none), "by_hub", "by_hub", defArgs s_by_hub, defBody s_by_hub, defScope s_by_hub, [], []⟩
abbrev s_numbers_in : Stmt := top 20
def d_numbers_in : He.DefD := ⟨("numbers_in", none), "numbers_in", "numbers_in", defArgs s_numbers_in, defBody s_numbers_in, defScope s_numbers_in, [], []⟩
abbrev s_unlike_by : Stmt := top 22
def d_unlike_by : He.DefD := ⟨("unlike_by", none), "unlike_by", "unlike_by", defArgs s_unlike_by, defBody s_unlike_by, defScope s_unlike_by, [], []⟩
abbrev s__law_right : Stmt := top 37
def d__law_right : He.DefD := ⟨("_law_right", none), "_law_right", "_law_right", defArgs s__law_right, defBody s__law_right, defScope s__law_right, [], []⟩
abbrev s__law_cell_at : Stmt := top 29
def d__law_cell_at : He.DefD := ⟨("_law_cell_at", none), "_law_cell_at", "_law_cell_at", defArgs s__law_cell_at, defBody s__law_cell_at, defScope s__law_cell_at, [], []⟩
abbrev s__law_pen_of : Stmt := top 31
def d__law_pen_of : He.DefD := ⟨("_law_pen_of", none), "_law_pen_of", "_law_pen_of", defArgs s__law_pen_of, defBody s__law_pen_of, defScope s__law_pen_of, [], []⟩
abbrev s__law_next : Stmt := top 30
def d__law_next : He.DefD := ⟨("_law_next", none), "_law_next", "_law_next", defArgs s__law_next, defBody s__law_next, defScope s__law_next, [], []⟩
abbrev s__law_draw : Stmt := top 32
def d__law_draw : He.DefD := ⟨("_law_draw", none), "_law_draw", "_law_draw", defArgs s__law_draw, defBody s__law_draw, defScope s__law_draw, [], []⟩
abbrev s__law_web_by : Stmt := top 33
def d__law_web_by : He.DefD := ⟨("_law_web_by", none), "_law_web_by", "_law_web_by", defArgs s__law_web_by, defBody s__law_web_by, defScope s__law_web_by, [], []⟩
abbrev s_law : Stmt := top 38
def d_law : He.DefD := ⟨("law", none), "law", "law", defArgs s_law, defBody s_law, defScope s_law, [], []⟩
abbrev s_I_TooGreat : Stmt := (clsB (top 5)).getD 0 (.Pass ⟨0, 0, 0, 0⟩)
def d_I_TooGreat : He.DefD := ⟨("TooGreat", some "__init__"), "__init__", "TooGreat.__init__", defArgs s_I_TooGreat, defBody s_I_TooGreat, defScope s_I_TooGreat, [], []⟩
end K68
namespace K68
open PySem PySem.Spec PyProof.Rows L2 TN
def fns : List He.DefD := [d__law_orders, d__law_sums_of, d__law_unlike, d_is_whole, d_are_numbers, d_sums_at, d_sums_unlike, d_unlike_good, d_Trier___init__, d_Trier_go, d_tried, d_unlike_count, d_check_place, d_ties_at, d_tie_counts, d_unlike_bar_holds, d_unlike_bar, d_hubs_of, d_need_hub, d_by_hub, d_numbers_in, d_unlike_by, d__law_right, d__law_cell_at, d__law_pen_of, d__law_next, d__law_draw, d__law_web_by, d_law, d_I_TooGreat]
def fas : List He.Fa := [.glo "_law_orders", .glo "_law_sums_of", .glo "_law_unlike", .glo "is_whole", .glo "are_numbers", .glo "sums_at", .glo "sums_unlike", .glo "unlike_good", .mkr "Trier", .glo "Trier", .cls "Trier", .meth "Trier" "go", .glo "tried", .glo "unlike_count", .glo "check_place", .glo "ties_at", .glo "tie_counts", .glo "unlike_bar_holds", .glo "unlike_bar", .glo "hubs_of", .glo "need_hub", .glo "by_hub", .glo "numbers_in", .glo "unlike_by", .glo "_law_right", .glo "_law_cell_at", .glo "_law_pen_of", .glo "_law_next", .glo "_law_draw", .glo "_law_web_by", .glo "law", .free "range", .free "enumerate", .free "sorted", .free "len", .free "isinstance", .free "int", .free "bool", .free "tuple", .free "all", .free "zip", .free "set", .free "list", .int "MOST_TRIED" (6), .exc "NoPlace", .free "str", .exc "NoKind", .free "sum", .exc "NoNumber", .free "min", .free "max"]
abbrev R : PySem.W.OpenRow := PySem.W.OpenLaw.row PySem.Challenge.rw_tienumbers_k68_whole_no_bar_and_unlike
abbrev hk : PySem.W.Hook := hookO 4 fas fns XS RS OS
def ob (s : PySem.W.SharedT) : AlO := obsO 4 fas fns XS RS OS (HandSHeadRun.getT s)
theorem run (w : World) : HandSHeadRun.RunEq R (PySem.W.view R.prog [38]) hk ob 6000 ((("TieError" : Str) :: "NoPlace" :: "NoKind" :: "NoNumber" :: "TooGreat" :: "is_whole" :: "check_place" :: "ties_at" :: "tie_counts" :: "hubs_of" :: "are_numbers" :: "MOST_TRIED" :: "sums_at" :: "sums_unlike" :: "unlike_good" :: "need_hub" :: "numbers_in" :: "by_hub" :: "unlike_by" :: "unlike_bar_holds" :: "unlike_bar" :: "Trier" :: "tried" :: "unlike_count" :: "_law_cell_at" :: "_law_next" :: "_law_pen_of" :: "_law_draw" :: "_law_web_by" :: "_law_sums_of" :: "_law_unlike" :: "_law_orders" :: "_law_right" :: [])) w := by
  intro os
  kernel_rfl
end K68
open PySem PySem.W PySem.Calls PyProof.Rows
end
namespace TN
open PySem PySem.Spec PyProof.Rows L2
/-! a caught exception, as data: its class's name, its fields -/
def isX : D → Bool
  | .dict ((.bool true, _) :: _) => true
  | _ => false
def isOb : D → Bool
  | .dict ((.bool false, _) :: _) => true
  | _ => false
def isE : List (D × D) → Bool
  | (.bool _, _) :: _ => true
  | _ => false
section
variable {K : PySem.W.Frag} {G G' : Hp}
end
/-! ### lists of data -/
section
variable {K : PySem.W.Frag} {G G' H H' : Hp}
theorem FzA.get : ∀ {vs : List V} {ds : List D} {i : Nat} {d : D}, FzA K G vs ds → ds[i]? = some d → ∃ v, vs[i]? = some v ∧ Fz K G v d
  | _, _, _, _, .nil, e => by simp at e
  | _, _, 0, _, .cons a _, e => by simp at e; subst e; exact ⟨_, rfl, a⟩
  | _, _, i + 1, d, .cons _ b, e => by
    obtain ⟨v, h1, h2⟩ := FzA.get (i := i) (d := d) b (by simpa using e)
    exact ⟨v, by simpa using h1, h2⟩
theorem FzA.append : ∀ {vs ws : List V} {ds es : List D}, FzA K G vs ds → FzA K G ws es → FzA K G (vs ++ ws) (ds ++ es)
  | _, _, _, _, .nil, h => h
  | _, _, _, _, .cons a b, h => .cons a (b.append h)
theorem FzA.take : ∀ {vs : List V} {ds : List D} (n : Nat), FzA K G vs ds → FzA K G (vs.take n) (ds.take n)
  | _, _, 0, _ => by simp; exact .nil
  | _, _, _ + 1, .nil => by simp; exact .nil
  | _, _, n + 1, .cons a b => .cons a (b.take n)
theorem FzA.drop : ∀ {vs : List V} {ds : List D} (n : Nat), FzA K G vs ds → FzA K G (vs.drop n) (ds.drop n)
  | _, _, 0, h => h
  | _, _, _ + 1, .nil => .nil
  | _, _, n + 1, .cons _ b => b.drop n
theorem FzA.eraseIdx : ∀ {vs : List V} {ds : List D} (i : Nat), FzA K G vs ds → FzA K G (vs.eraseIdx i) (ds.eraseIdx i)
  | _, _, _, .nil => .nil
  | _, _, 0, .cons _ b => b
  | _, _, i + 1, .cons a b => .cons a (b.eraseIdx i)
theorem FzA.dropLast {vs : List V} {ds : List D} (h : FzA K G vs ds) : FzA K G vs.dropLast ds.dropLast := by
  rw [List.dropLast_eq_take, List.dropLast_eq_take, h.length]; exact h.take _
theorem FzA.reverse : ∀ {vs : List V} {ds : List D}, FzA K G vs ds → FzA K G vs.reverse ds.reverse
  | _, _, .nil => .nil
  | _, _, .cons a b => by simpa using b.reverse.append (.cons a .nil)
theorem FzA.rep {vs : List V} {ds : List D} (h : FzA K G vs ds) : ∀ k : Nat, FzA K G (List.replicate k vs).flatten (List.replicate k ds).flatten
  | 0 => .nil
  | k + 1 => by simpa [List.replicate_succ] using h.append (h.rep k)
theorem FzA.ints : ∀ {vs : List V} {ns : List Int}, FzA K G vs (ns.map PyData.int) → vs = ns.map V.int
  | _, [], .nil => rfl
  | _, n :: ns, .cons a b => by cases a; rw [FzA.ints b]; rfl
theorem FzA.of_ints : ∀ (ns : List Int), FzA K G (ns.map V.int) (ns.map PyData.int)
  | [] => .nil
  | n :: ns => .cons (.int n) (of_ints ns)
theorem FzA.bls : ∀ {vs : List V} {ns : List Bool}, FzA K G vs (ns.map PyData.bool) → vs = ns.map V.bl
  | _, [], .nil => rfl
  | _, n :: ns, .cons a b => by cases a; rw [FzA.bls b]; rfl
end

/-! ### modes, slots, places -/
def R.bind {α β : Type} (r : R α) (k : α → Rho → R β) : R β := match r with
  | .ok a ρ => k a ρ
  | .exc x ρ => .exc x ρ
  | .bad => .bad
def look (p : Pl) (ρ : Rho) : Option D := match p with
  | .val d => some d
  | .tmp d => some d
  | .slot i => match ρ[i]? with
    | some (some (d, _)) => some d
    | _ => none
/-! ### the state -/
section
variable (K : PySem.W.Frag) (G H B : Hp)
end
section
variable {K : PySem.W.Frag} {L : L2.St} {B G G' H H' : Hp} {σ : L2.St} {ρ : Rho} {v : V} {d : D} {a : Addr}
theorem Cont.notTup {vs : List V} (c : Cont K G H a d) (h : H a = some (.tup vs)) : False := by
  cases c with
  | lst e _ => rw [h] at e; cases e
  | dK e _ => rw [h] at e; cases e
  | dT e _ => rw [h] at e; cases e
  | ob e _ _ => rw [h] at e; cases e
theorem SlotOk.vw {p : D × Md} (s : SlotOk K G H B v p) : Vw K G H v p.1 := by
  cases h : p.2.isFz with
  | true => exact .inl (s.fz h)
  | false =>
    obtain ⟨a, rfl, _, _, c⟩ := s.own h
    exact .inr ⟨a, rfl, c⟩
/-- a new list is frozen at once -/
theorem PlOk.fix {p : Pl} (r : Rel K L B σ ρ G H) (h : PlOk K B σ ρ G H v p) : ∃ G', Rel K L B σ ρ G' H ∧ Ext B G G' ∧ PlFx K σ G' v p := by
  cases p with
  | val d => exact ⟨G, r, .refl, h⟩
  | slot i => exact ⟨G, r, .refl, h⟩
  | tmp d =>
    obtain ⟨a, rfl, h1, h2, c, hs⟩ := h
    obtain ⟨o, ho⟩ := c.there
    obtain ⟨r', e⟩ := r.freeze h2 h1 ho hs
    exact ⟨_, r', e, c.frozen e.same (by rw [upd_same, ho])⟩
theorem PlFx.look {p : Pl} (r : Rel K L B σ ρ G H) (h : PlFx K σ G v p) (e : look p ρ = some d) : Vw K G H v d := by
  cases p with
  | val x => cases e; exact .of h
  | tmp x => cases e; exact .of h
  | slot i =>
    unfold TN.look at e
    cases q : ρ[i]? with
    | none => simp [q] at e
    | some o =>
      cases o with
      | none => simp [q] at e
      | some p =>
        obtain ⟨d', m⟩ := p
        simp only [q] at e
        cases e
        obtain ⟨v', h1, h2⟩ := r.slots i _ q
        have h' : σ[i]? = some (some v) := h
        rw [h'] at h1; cases h1
        exact h2.vw
end
end TN
namespace TN
open PySem PySem.Spec PyProof.Rows L2

/-! ### tuples made where it is known that they have no dict of their own -/
theorem kt_new {P : Program} {w : World} {H : Hp} {h : Heap} {xs : List V} {its : List Value} (z : xs.length ≤ sizeLine) (r : Vals xs its) :
    ObjOk P w H (h.push { cls := .type "tuple", data := .seq its.toArray }) h.objs.size (.frz { cls := .type "tuple", data := .seq its.toArray } (.tup xs)) :=
  ⟨Heap.get?_push_size _ rfl, z, its, r, IsTup.new _ _⟩
/-- the end of what makes a tuple -/
theorem kt_end {X : Cx} {pins : List (Addr × Obj)} {σ : L2.St} {H : Hp} {s : Shared} {Q : VK} {xs : List V} {its : List Value} (I : Inv X pins σ H s) (z : xs.length ≤ sizeLine) (r : Vals xs its)
    (q : ∀ (p : Addr) (o : Obj), H p = none → o.dict = none → Q (.ref p) (upd H p (.frz o (.tup xs)))) :
    EP X pins σ Q (.ref s.heap.objs.size) { s with heap := s.heap.push { cls := .type "tuple", data := .seq its.toArray } } :=
  ⟨.ref s.heap.objs.size, _, I.laid (t' := s.toks) (o := .frz { cls := .type "tuple", data := .seq its.toArray } (.tup xs)) (fun b u e => Heap.get?_push_of_some _ e) (Nat.le_refl _) (kt_new z r), rfl, q _ _ (I.hok.fresh (Nat.le_refl _)) rfl⟩
def tTupK (t : TA) : TE := fun σ H Q => t σ H fun xs H1 => xs.length ≤ sizeLine ∧ ∀ (p : Addr) (o : Obj), H1 p = none → o.dict = none → Q (.ref p) (upd H1 p (.frz o (.tup xs)))
section
variable {X : Cx}
theorem pe_tupK {es : List Expr} {t : TA} {pos : Pos} {x1 : Nat} (h : PA X es t) : PE X (.Tuple es x1 pos) (tTupK t) :=
  ⟨fun pins s σ H Q I hq => wpAny_Tuple_spliced (thn (h.run pos pins s σ H _ I hq) fun us s1 hz => by
    obtain ⟨xs, H1, I1, r, z, q⟩ := hz
    exact ⟨by rw [← r.length]; exact z, kt_end I1 z r q⟩)⟩
/-- tuple(list): a new one; tuple(tuple): itself -/
def rTupK (K : PySem.W.Frag) : List V → Hp → VK → Prop := fun xs H Q => ∃ p ys, xs = [.ref p] ∧ ((SqL K H p ys ∧ ∀ (l : Addr) (o : Obj), H l = none → o.dict = none → Q (.ref l) (upd H l (.frz o (.tup ys)))) ∨ (SqT K H p ys ∧ Q (.ref p) H))
theorem cr_tupK : CallR X (.type "tuple") (rTupK X.K) := by
  intro pins s σ H xs us Q I r ⟨p, ys, ex, h⟩
  subst ex
  obtain ⟨u, rfl, rx⟩ := vals1 r
  cases rx
  rcases h with ⟨hq, q⟩ | ⟨hq, q⟩
  · obtain ⟨its, r2, pl, hz⟩ := I.list hq
    have hl := r2.length
    refine call_tuple_list pl.isList (fun h' kp => ?_) (by simp only [List.size_toArray] <;> omega)
    have I1 : Inv X pins σ H { s with heap := h' } := I.kept (t' := s.toks) kp
    exact kt_end I1 hz r2 q
  · obtain ⟨its, r2, pl, _⟩ := I.tuple hq
    exact call_tuple_same pl ⟨.ref p, H, I, rfl, q⟩
/-- two tuples put together -/
def rCatK (K : PySem.W.Frag) : R2 := fun x y H Q => ∃ a b xs ys, x = .ref a ∧ y = .ref b ∧ SqT K H a xs ∧ SqT K H b ys ∧ xs.length + ys.length ≤ sizeLine ∧
  (xs = [] → Q (.ref b) H) ∧ (xs ≠ [] → ys = [] → Q (.ref a) H) ∧ (xs ≠ [] → ys ≠ [] → ∀ (p : Addr) (o : Obj), H p = none → o.dict = none → Q (.ref p) (upd H p (.frz o (.tup (xs ++ ys)))))
theorem op_catK : OpR X (binaryOp .Add) (rCatK X.K) := by
  intro pins s σ H x y v u Q I rx ry ⟨a, b, xs, ys, ex, ey, ha, hb, hz, q0, q1, q2⟩
  subst ex ey
  by_cases hx : xs = []
  · exact op_catA pins s σ H _ _ v u Q I rx ry ⟨a, b, xs, ys, rfl, rfl, ha, hb, hz, q0, fun z => absurd hx z, fun z => absurd hx z⟩
  · by_cases hy : ys = []
    · exact op_catA pins s σ H _ _ v u Q I rx ry ⟨a, b, xs, ys, rfl, rfl, ha, hb, hz, fun z => absurd z hx, q1, fun _ z => absurd hy z⟩
    · cases rx
      cases ry
      obtain ⟨i1, r1, p1, _⟩ := I.tuple ha
      obtain ⟨i2, r2, p2, _⟩ := I.tuple hb
      refine HT.cat_tup p1 p2 (fun z => hx (r1.nil_iff.mp z)) (fun z => absurd (r2.nil_iff.mp z) hy) (fun _ => ?_) (by rw [← r1.length, ← r2.length]; exact hz)
      exact kt_end I (by rw [List.length_append]; exact hz) (r1.append r2) (q2 hx hy)
/-- t[lo:hi]: the whole of it is t itself -/
def rSlK (K : PySem.W.Frag) : V → Option Int → Option Int → Hp → VK → Prop := fun x lo hi H Q => ∃ a xs, x = .ref a ∧ SqT K H a xs ∧
  (HT.sIx xs.length 0 lo = 0 ∧ HT.sIx xs.length xs.length hi = xs.length → Q (.ref a) H) ∧ (¬ (HT.sIx xs.length 0 lo = 0 ∧ HT.sIx xs.length xs.length hi = xs.length) → ∀ (p : Addr) (o : Obj), H p = none → o.dict = none → Q (.ref p) (upd H p (.frz o (.tup (cutV xs lo hi)))))
theorem sl_tupK : SlR X (rSlK X.K) := by
  intro pins s σ H x v vl vu lo hi sl Q I rx hs pl pu ⟨a, xs, ex, hx, q1, q2⟩
  subst ex
  by_cases hw : HT.sIx xs.length 0 lo = 0 ∧ HT.sIx xs.length xs.length hi = xs.length
  · exact sl_tupA pins s σ H _ v vl vu lo hi sl Q I rx hs pl pu ⟨a, xs, rfl, hx, q1, fun z => absurd hw z⟩
  · cases rx
    obtain ⟨its, r, ht, hz⟩ := I.tuple hx
    have hl : its.toArray.size = xs.length := by rw [List.size_toArray]; exact r.length.symm
    refine ⟨"tuple", _, PyProof.Rows.slot_tuple_getitem.lookup, ht.typeIs, HT.getItem_tuple_cut ht hs pl pu (by rw [hl]; exact hw) ?_ (by rw [hl]; exact hz)⟩
    rw [hl]
    exact kt_end I (Nat.le_trans (cutV_length xs lo hi) hz) ((r.drop (HT.sIx xs.length 0 lo)).take (HT.sIx xs.length xs.length hi - HT.sIx xs.length 0 lo)) (q2 hw)
end
end TN
namespace TN
open PySem PySem.Spec PyProof.Rows L2

/-! ### dicts whose keys are tuples of whole numbers, the keys' addresses known -/
theorem hash_ints (P P' : Program) (w w' : World) {ks : List Key} (h : ∀ k ∈ ks, ∃ i : Int, k = .inl i) : (tupleKind (mixKind P w)).hash ks = (tupleKind (mixKind P' w')).hash ks := by
  have e : ks.map (mixKind P w).hash = ks.map (mixKind P' w').hash := List.map_congr_left fun k hk => by
    obtain ⟨i, rfl⟩ := h k hk
    rfl
  show tupleKeyHash (mixKind P w) ks = tupleKeyHash (mixKind P' w') ks
  unfold tupleKeyHash
  rw [e]
theorem key_kt {P : Program} {w : World} {H : Hp} {h : Heap} {b : Addr} {ks : List Key} (ok : HOk P w H h) (k : Kt H b (ks.map kV)) : (tupleKind (mixKind P w)).is h ks b := by
  obtain ⟨u, e, _⟩ := k
  obtain ⟨_, _, its, r, o, h1, h2, n, h3⟩ := (show ObjOk P w H h b (.frz u (.tup (ks.map kV))) from ok b _ e)
  exact ⟨o, its.toArray, n, h1, h2, h3, by simpa using items_are r⟩
theorem PRT.mem {rs : List RowT} {xs : List (List Key × Addr × Value)} (r : PRT rs xs) : ∀ x ∈ xs, ∃ p ∈ rs, p.1 = x.1 ∧ p.2.1 = x.2.1 := by
  induction r with
  | nil => intro x hx; cases hx
  | @cons p q ps qs h t ih =>
    intro x hx
    rcases List.mem_cons.mp hx with e | hx
    · subst e; exact ⟨p, List.mem_cons_self .., h.1, h.2.1⟩
    · obtain ⟨p', hp, e⟩ := ih x hx
      exact ⟨p', List.mem_cons_of_mem _ hp, e⟩
theorem entries_any {P P' : Program} {w w' : World} {xs : List (List Key × Addr × Value)} (h : ∀ x ∈ xs, ∀ k ∈ x.1, ∃ i : Int, k = .inl i) : xs.map (entryOfKey (tupleKind (mixKind P' w'))) = xs.map (entryOfKey (tupleKind (mixKind P w))) :=
  List.map_congr_left fun x hx => by
    unfold entryOfKey
    rw [hash_ints P' P w' w (h x hx)]
theorem dtx_of {P : Program} {w : World} {H : Hp} {h : Heap} {a : Addr} {rs : List RowT} (ok : HOk P w H h) (e : H a = some (dtO a rs)) (kt : ∀ r ∈ rs, Kt H r.2.1 (r.1.map kV)) :
    rs.length ≤ sizeLine ∧ (a == sysModules) = false ∧ (∀ r ∈ rs, ∀ k ∈ r.1, ∃ i : Int, k = .inl i) ∧ ∃ xs, PRT rs xs ∧ h.DictOfH (tupleKind (mixKind P w)) a xs := by
  obtain ⟨⟨z, y, hi, P', w', xs, r, o, es, ep, h1, h2, h3, h4, h5⟩, _, _⟩ := (show ObjOk P w H h a (.ext (RawT a rs)) from ok a _ e)
  refine ⟨z, y, hi, xs, r, o, es, ep, h1, h2, h3, ?_, fun x hx => ?_, h5⟩
  · rw [h4]
    refine entries_any fun x hx => ?_
    obtain ⟨p, hp, e1, _⟩ := r.mem x hx
    rw [← e1]; exact hi p hp
  · obtain ⟨p, hp, e1, e2⟩ := r.mem x hx
    rw [← e1, ← e2]
    exact key_kt ok (kt p hp)
def putR (rs : List RowT) (k : List Key) (b : Addr) (v : V) : List RowT := if (valV (rowsV rs) k).isSome = true then rs.map (fun r => if r.1 = k then (r.1, r.2.1, v) else r) else rs ++ [(k, b, v)]
theorem putR_len (rs : List RowT) (k : List Key) (b : Addr) (v : V) : (putR rs k b v).length ≤ rs.length + 1 := by
  unfold putR
  split <;> simp
theorem PRT.repl {rs : List RowT} {xs : List (List Key × Addr × Value)} (r : PRT rs xs) (k : List Key) {y : V} {u : Value} (ry : RelV y u) :
    PRT (rs.map fun r => if r.1 = k then (r.1, r.2.1, y) else r) (xs.map (putAt k u)) := by
  induction r with
  | nil => exact .nil
  | @cons p q ps qs h t ih =>
    rw [List.map_cons, List.map_cons]
    refine .cons ?_ ih
    obtain ⟨h1, h2, h3⟩ := h
    unfold putAt
    by_cases e : p.1 = k
    · rw [if_pos e, if_pos (h1.symm.trans e)]; exact ⟨h1, h2, ry⟩
    · rw [if_neg e, if_neg (fun z => e (h1.trans z))]; exact ⟨h1, h2, h3⟩
theorem PRT.put {rs : List RowT} {xs : List (List Key × Addr × Value)} (r : PRT rs xs) (k : List Key) (b : Addr) {y : V} {u : Value} (ry : RelV y u) : PRT (putR rs k b y) (storedH xs k b u) := by
  have e := (r.val k).isSome_eq
  rw [Option.isSome_map] at e
  unfold putR storedH
  rw [e]
  by_cases q : (atKey xs k).isSome = true
  · rw [if_pos q, if_pos q]; exact r.repl k ry
  · rw [if_neg q, if_neg q]; exact Paired.snoc r ⟨rfl, rfl, ry⟩
theorem putR_ints {rs : List RowT} {k : List Key} {b : Addr} {v : V} (h : ∀ r ∈ rs, ∀ k ∈ r.1, ∃ i : Int, k = .inl i) (hk : ∀ x ∈ k, ∃ i : Int, x = .inl i) : ∀ r ∈ putR rs k b v, ∀ k ∈ r.1, ∃ i : Int, k = .inl i := by
  intro r hr
  unfold putR at hr
  split at hr
  · obtain ⟨p, hp, rfl⟩ := List.mem_map.mp hr
    split
    · exact h p hp
    · exact h p hp
  · rcases List.mem_append.mp hr with z | z
    · exact h r z
    · have : r = (k, b, v) := by simpa using z
      subst this; exact hk
theorem dto_new {P : Program} {w : World} {H : Hp} {h : Heap} {a : Addr} {rs : List RowT} {xs : List (List Key × Addr × Value)} (z : rs.length ≤ sizeLine) (y : (a == sysModules) = false) (hi : ∀ r ∈ rs, ∀ k ∈ r.1, ∃ i : Int, k = .inl i) (r : PRT rs xs)
    (d : h.DictOfH (tupleKind (mixKind P w)) a xs) : ObjOk P w H h a (dtO a rs) := by
  obtain ⟨o, es, ep, h1, h2, h3, h4, _, h5⟩ := d
  refine ⟨⟨z, y, hi, P, w, xs, r, o, es, ep, h1, h2, h3, h4, h5⟩, ⟨o, h1⟩, fun g1 g2 q keep => ?_⟩
  obtain ⟨z, y, hi, P', w', xs', r', o', es', ep', k1, k2, k3, k4, k5⟩ := q
  exact ⟨z, y, hi, P', w', xs', r', o', es', ep', keep _ k1, k2, k3, k4, k5⟩
theorem dto_empty {P : Program} {w : World} {H : Hp} (h : Heap) (hb : sysModules < h.objs.size) : ObjOk P w H (h.push { cls := .type "dict", data := .dict #[] }) h.objs.size (dtO h.objs.size []) :=
  dto_new (xs := []) (Nat.zero_le _) (beq_eq_false_iff_ne.mpr (Ne.symm (Nat.ne_of_lt hb))) (fun r hr => by cases hr) .nil ⟨_, #[], 0, Heap.get?_push_size _ rfl, ⟨rfl, rfl, rfl⟩, rfl, rfl, (fun x hx => by cases hx), List.nodup_nil⟩
def tDNewX : TE := fun _ H Q => ∀ p, H p = none → Q (.ref p) (upd H p (dtO p []))
theorem pe_dnewX {X : Cx} {pos : Pos} : PE X (.Dict [] [] pos) tDNewX := ⟨fun pins s σ H Q I h =>
  wpAny_Dict_empty ⟨.ref s.heap.objs.size, _, I.laid (a := s.heap.objs.size) (o := dtO s.heap.objs.size []) (t' := s.toks) (fun _ _ q => Heap.get?_push_of_some _ q) (Nat.le_refl _) (dto_empty s.heap I.big), rfl, h _ (I.hok.fresh (Nat.le_refl _))⟩⟩
/-- what the dict at a holds at the key y -/
def DGX (H : Hp) (a : Addr) (y : V) (r : Option V) : Prop := ∃ rs k b, H a = some (dtO a rs) ∧ (∀ r ∈ rs, Kt H r.2.1 (r.1.map kV)) ∧ y = .ref b ∧ Kt H b (k.map kV) ∧ r = valV (rowsV rs) k
def DG (H : Hp) (a : Addr) (y : V) (r : Option V) : Prop := DGet H a y r ∨ DGX H a y r
def DPX (H : Hp) (a : Addr) (y v : V) (H' : Hp) : Prop := ∃ rs k b, H a = some (dtO a rs) ∧ (∀ r ∈ rs, Kt H r.2.1 (r.1.map kV)) ∧ y = .ref b ∧ Kt H b (k.map kV) ∧ (∀ x ∈ k, ∃ i : Int, x = .inl i) ∧ rs.length < sizeLine ∧ H' = upd H a (dtO a (putR rs k b v))
section
variable {X : Cx} {pins : List (Addr × Obj)} {σ : L2.St} {H : Hp} {s : Shared} {a : Addr} {y v : V} {u r : Value} {o : Option V} {A : Around} {E : Value → Shared → Prop}
theorem dg_typeIs (I : Inv X pins σ H s) (g : DG H a y o) : s.TypeIs (.ref a) "dict" := by
  rcases g with g | ⟨rs, k, b, e, kt, _⟩
  · exact dict_typeIs I g
  · obtain ⟨_, _, _, xs, _, dd⟩ := dtx_of I.hok e kt
    exact dd.typeIs
theorem dg_getItem {Q : Value → Shared → Prop} (hu : A.units + 1 < cLine) (I : Inv X pins σ H s) (g : DG H a y (some v)) (ry : RelV y u) (h : ∀ w' s', Inv X pins σ H s' → RelV v w' → Q w' s') :
    wpAny (model X.prog X.w) A (getItem (.ref a) u) Q E s := by
  rcases g with g | ⟨rs, k, b, e, kt, ey, kb, l⟩
  · exact d_getItem hu I g ry h
  · subst ey
    cases (show u = Value.ref b from ry)
    obtain ⟨_, _, _, xs, rel, dd⟩ := dtx_of I.hok e kt
    obtain ⟨w', hw, rw'⟩ := RelO.some_of (v := v) (o := (atKey xs k).map (·.2)) (by rw [l]; exact rel.val k)
    obtain ⟨p, hp, hp2⟩ := Option.map_eq_some_iff.mp hw
    refine wpAny_getItem_heap (tupleKind_room_in1 hu) (key_kt I.hok kb) dd hp ?_
    rw [hp2]
    exact h w' _ (I.tok _) rw'
theorem dg_in {Q : Value → Shared → Prop} (hu : A.units + 1 < cLine) (I : Inv X pins σ H s) (g : DG H a y o) (ry : RelV y u) (h : ∀ s', Inv X pins σ H s' → Q (.bool o.isSome) s') :
    wpAny (model X.prog X.w) A (compareOp .In u (.ref a)) Q E s := by
  rcases g with g | ⟨rs, k, b, e, kt, ey, kb, l⟩
  · exact d_in hu I g ry h
  · subst ey
    cases (show u = Value.ref b from ry)
    obtain ⟨_, hd, _, xs, rel, dd⟩ := dtx_of I.hok e kt
    refine wpAny_in_heap (tupleKind_room_in1 hu) (key_kt I.hok kb) hd dd ?_
    have q := (rel.val k).isSome_eq
    rw [Option.isSome_map] at q
    rw [← q, ← l]
    exact h _ (I.tok _)
theorem dg_notIn {Q : Value → Shared → Prop} (hu : A.units + 1 < cLine) (I : Inv X pins σ H s) (g : DG H a y o) (ry : RelV y u) (h : ∀ s', Inv X pins σ H s' → Q (.bool (!o.isSome)) s') :
    wpAny (model X.prog X.w) A (compareOp .NotIn u (.ref a)) Q E s := by
  rcases g with g | ⟨rs, k, b, e, kt, ey, kb, l⟩
  · exact d_notIn hu I g ry h
  · subst ey
    cases (show u = Value.ref b from ry)
    obtain ⟨_, hd, _, xs, rel, dd⟩ := dtx_of I.hok e kt
    refine wpAny_notIn_heap (tupleKind_room_in1 hu) (key_kt I.hok kb) hd dd ?_
    have q := (rel.val k).isSome_eq
    rw [Option.isSome_map] at q
    rw [← q, ← l]
    exact h _ (I.tok _)
theorem dg_setItem {H' : Hp} {Q : Unit → Shared → Prop} (hu : A.units + 1 < cLine) (I : Inv X pins σ H s) (g : DPX H a y v H') (ry : RelV y u) (rv : RelV v r) (h : ∀ s', Inv X pins σ H' s' → Q () s') :
    wpAny (model X.prog X.w) A (setItem (.ref a) u r) Q E s := by
  obtain ⟨rs, k, b, e, kt, ey, kb, ki, l, eH⟩ := g
  subst ey eH
  cases (show u = Value.ref b from ry)
  obtain ⟨z, hd, hi, xs, rel, dd⟩ := dtx_of I.hok e kt
  have hz : xs.length ≤ sizeLine := by rw [← rel.length]; exact z
  have hl : (putR rs k b v).length ≤ sizeLine := by have := putR_len rs k b v; omega
  refine wpAny_setItem_heap (hsz := hz) (tupleKind_room_in1 hu) (key_kt I.hok kb) dd fun h' dd' hs => h _ ?_
  have he : ∃ q, h'.get? a = some q := let ⟨q, _, _, hq, _⟩ := dd'; ⟨q, hq⟩
  exact d_write I (by rw [e]; exact True.intro) hs he (dto_new hl hd (putR_ints hi ki) (rel.put k b rv) dd')
end
/-- o[i] = v -/
def rSetX : TSet := fun o i v H Q => ∃ a H', o = .ref a ∧ DPX H a i v H' ∧ Q H'
theorem set_dictX {X : Cx} (hu : X.A.units + 1 < cLine) : PSet X rSetX := by
  intro pins s σ H o i v ov iv u Q I ro ri rv h
  obtain ⟨a, H', eo, g, q⟩ := h
  subst eo
  cases (show ov = Value.ref a from ro)
  exact dg_setItem hu I g ri rv fun s' I' => ⟨H', I', q⟩
/-- len(d) -/
def rLenX : List V → Hp → VK → Prop := fun xs H Q => ∃ (p : Addr) (rs : List RowT), xs = [.ref p] ∧ H p = some (dtO p rs) ∧ (∀ r ∈ rs, Kt H r.2.1 (r.1.map kV)) ∧ Q (.int ((rs.length : Nat) : Int)) H
theorem call_len_dX {X : Cx} : CallR X (.builtin "len") rLenX := by
  intro pins s σ H xs us Q I r h
  obtain ⟨p, rs, rfl, hp, kt, q⟩ := h
  obtain ⟨u, rfl, rx⟩ := vals1 r
  obtain rfl : u = .ref p := rx
  obtain ⟨z, hd, _, ys, rel, dd⟩ := dtx_of I.hok hp kt
  have hl : rs.length = ys.length := rel.length
  refine call_len_dictH hd dd (by rw [← hl]; rw [sizeLine_eq] at z; omega) ?_
  rw [← hl]
  exact ⟨.int ((rs.length : Nat) : Int), H, I.tok _, ⟨_, rfl⟩, q⟩
/-- list(d): the keys, by their addresses -/
def rListX : List V → Hp → VK → Prop := fun xs H Q => ∃ d rs, xs = [V.ref d] ∧ H d = some (dtO d rs) ∧ (∀ r ∈ rs, Kt H r.2.1 (r.1.map kV)) ∧ ∀ p, H p = none → Q (.ref p) (upd H p (.lst (rs.map fun r => V.ref r.2.1)))
theorem call_list_dX {X : Cx} (hc : X.calm = true) : CallR X (.type "list") rListX := by
  intro pins s σ H xs us Q I r h
  obtain ⟨d, rs, rfl, hd, kt, q⟩ := h
  obtain ⟨u, rfl, rx⟩ := r.one
  cases rx
  obtain ⟨z, hs, _, ks, pr, o, es, ep, ho, hx, hdt, he, _, hn⟩ := dtx_of I.hok hd kt
  have l1 : es.size = ks.length := size_of_entries he
  have l2 : rs.length = ks.length := pr.length
  refine PySem.W.kdl_call (kdl_raw hs hx hdt) (I.ok.hd hc) ho (by omega) fun h' tk acc' c' kp e it => ?_
  have ea : acc'.toList = ks.map fun x => Value.ref x.2.1 := by
    have hl : acc'.toList.length = ks.length := by rw [Array.length_toList, it.1]; exact l1
    apply List.ext_getElem?
    intro j
    rw [List.getElem?_map]
    cases hj : acc'.toList[j]? with
    | none =>
      have h1 := List.getElem?_eq_none_iff.mp hj
      rw [List.getElem?_eq_none (by omega)]
      all_goals rfl
    | some v =>
      obtain ⟨en, hen, hv⟩ := it.2 j v (by rw [← Array.getElem?_toList]; exact hj)
      have qe := entry_at he j
      rw [hen] at qe
      cases hb : ks[j]? with
      | none =>
        rw [hb] at qe
        exact nomatch (show some en = none from qe)
      | some b =>
        rw [hb] at qe
        have e2 : en = entryOfKey (tupleKind (mixKind X.prog X.w)) b := Option.some.inj qe
        rw [hv, e2]
        all_goals rfl
  have er : rs.map (fun r => V.ref r.2.1) = (ks.map fun x => x.2.1).map V.ref := by
    have : ∀ {rs : List RowT} {ks : List (List Key × Addr × Value)}, PRT rs ks → rs.map (fun r => V.ref r.2.1) = (ks.map fun x => x.2.1).map V.ref := fun p => by
      induction p with
      | nil => rfl
      | cons h t ih => simp only [List.map_cons, ih, h.2.1]
    exact this pr
  have eb : acc'.toList = (ks.map fun x => x.2.1).map Value.ref := by rw [ea, List.map_map]; all_goals rfl
  have rv : Vals (rs.map fun r => V.ref r.2.1) acc'.toList := by rw [er, eb]; exact vals_refs _
  have hz : (rs.map fun r => V.ref r.2.1).length ≤ sizeLine := by rw [List.length_map]; omega
  refine ⟨.ref s.heap.objs.size, _, I.laid (t' := tk) (o := .lst (rs.map fun r => V.ref r.2.1)) kp (Nat.le_refl _) ?_, rfl, q _ (I.hok.fresh (Nat.le_refl _))⟩
  exact ⟨hz, acc'.toList, c', rv, by rw [Array.toArray_toList]; exact e⟩
/-- isinstance(d, c) -/
def rIsiD (K : PySem.W.Frag) : List V → Hp → VK → Prop := fun xs H Q => ∃ (a : Addr) (rs : List RowT) (c : V) (u : Value) (b : Bool), xs = [.ref a, c] ∧ ClsV c u ∧ H a = some (dtO a rs) ∧ PySem.W.kitOne K (.type "dict") u = some b ∧ Q (.bl b) H
theorem call_isiD {X : Cx} : CallR X (.builtin "isinstance") (rIsiD X.K) := by
  intro pins s σ H xs us Q I r h
  obtain ⟨a, rs, c, u, b, rfl, k, x, e, q⟩ := h
  obtain ⟨u1, u2, rfl, r1, r2⟩ := vals2 r
  have e2 := k.eq r2
  subst e2
  cases (show u1 = Value.ref a from r1)
  obtain ⟨⟨_, _, _, _, _, _, _, o, _, _, h1, h2, _⟩, _, _⟩ := (show ObjOk X.prog X.w H s.heap a (.ext (RawT a rs)) from I.hok a _ x)
  exact PySem.W.kia_one PySem.W.kitx_dict I.kIn ⟨o, h1, h2.1⟩ e (fun z => nomatch z) fun tk => ⟨.bl b, H, I.tok tk, rfl, q⟩
/-! d.get(y, z) -/
def IsDX (H : Hp) (a : Addr) : Prop := IsD H a ∨ ∃ rs, H a = some (dtO a rs)
theorem isDX_at {X : Cx} {pins : List (Addr × Obj)} {σ : L2.St} {H : Hp} {s : Shared} {a : Addr} (I : Inv X pins σ H s) (d : IsDX H a) :
    s.TypeIs (.ref a) "dict" ∧ ∀ b, Value.ref a = .ref b → ∃ ob, s.heap.get? b = some ob ∧ ob.dict = none := by
  rcases d with d | ⟨rs, e⟩
  · obtain ⟨h1, h2, _⟩ := isD_at I d
    exact ⟨h1, h2⟩
  · obtain ⟨⟨_, _, _, _, _, _, _, o, _, _, h1, h2, _⟩, _, _⟩ := (show ObjOk X.prog X.w H s.heap a (.ext (RawT a rs)) from I.hok a _ e)
    refine ⟨⟨o, h1, h2.1⟩, fun b q => ?_⟩
    cases q
    exact ⟨o, h1, h2.2.1⟩
theorem dg_get2 {X : Cx} {pins : List (Addr × Obj)} {σ : L2.St} {H : Hp} {s : Shared} {a : Addr} {y d : V} {u r : Value} {o : Option V} {A : Around} {E : Value → Shared → Prop} {Q : Value → Shared → Prop} (hu : A.units + 1 < cLine) (I : Inv X pins σ H s) (g : DG H a y o) (ry : RelV y u) (rd : RelV d r) (h : ∀ w' s', Inv X pins σ H s' → RelV (o.getD d) w' → Q w' s') :
    wpAny (model X.prog X.w) A (call (.builtin "dict.get") [.ref a, u, r]) Q E s := by
  rcases g with g | ⟨rs, k, b, e, kt, ey, kb, l⟩
  · exact d_get2 hu I g ry rd h
  · subst ey
    cases (show u = Value.ref b from ry)
    obtain ⟨_, hd, _, xs, rel, dd⟩ := dtx_of I.hok e kt
    refine call_meetsIn PySem.F.slot_dict_get dd.typeIs PySem.F.entry_dict_get (PySem.F.args_dict_get_3 _ _ _) (meetsH_dict_get_default (tupleKind (mixKind X.prog X.w)) a b hd r) ⟨tupleKind_room_in1 hu, k, xs, key_kt I.hok kb, dd, h _ _ (I.tok _) ?_⟩
    rw [l]
    exact (rel.val k).getD rd
def tDGet2X (td ty tx : TE) : TE := fun σ H Q => td σ H fun x H1 => ∃ a, x = .ref a ∧ IsDX H1 a ∧ ty σ H1 fun y H2 => tx σ H2 fun z H3 => ∃ o, DG H3 a y o ∧ Q (o.getD z) H3
theorem pe_dget2X {X : Cx} {o e f : Expr} {apos cpos : Pos} {td ty tx : TE} (hu : X.A.units + 1 < cLine) (ho : PE X o td) (he : PE X e ty) (hf : PE X f tx) (m : M2 X o "get" apos e f cpos) : PE X (.Call (.Attribute o "get" apos) [e, f] [] cpos) (tDGet2X td ty tx) := by
  refine ⟨fun pins s σ H Q I h => ?_⟩
  refine wpAny_Call_method m.base m.few m.line PySem.F.plainAttrs_dict PySem.F.slot_dict_get PySem.F.type_dict_get (thn (ho.run pins s σ H _ I h) fun u s1 ⟨x, H1, I1, rx, a, ex, d, q1⟩ => ?_)
  subst ex
  obtain rfl : u = Value.ref a := rx
  obtain ⟨t1, t2⟩ := isDX_at I1 d
  refine ⟨t1, t2, ?_⟩
  rw [m.trees]
  refine Calls.callWith_builtin rfl (Calls.evalArgs_plain (Calls.spliced_cons (thn (he.run pins s1 σ H1 _ I1 q1) fun iv s2 ⟨y, H2, I2, ry, q2⟩ =>
    Calls.spliced_cons (thn (hf.run pins s2 σ H2 _ I2 q2) fun fv s3 ⟨z, H3, I3, rz, ov, g, q3⟩ => Calls.spliced_nil ?_))))
  exact dg_get2 hu I3 g ry rz fun w' s4 I4 rw' => ⟨_, H3, I4, rw', q3⟩
end TN
namespace TN
open PySem PySem.Spec PyProof.Rows L2

/-! ### what a computation gave -/
abbrev GotP (X : Cx) (L : L2.St) (W : WX) (σ : L2.St) (G B : Hp) (r : R Pl) (Q : VK) : Prop := Got X L W σ G B (fun p ρ' G' H' v => PlOk X.K B σ ρ' G' H' v p) r Q
abbrev GotB (X : Cx) (L : L2.St) (W : WX) (σ : L2.St) (G B : Hp) (r : R Bool) (Q : Bool → Hp → Prop) : Prop := Got X L W σ G B (fun b _ _ _ b' => b' = b) r Q
def tX (X : Cx) (W : WX) (c : CE) : TE := fun σ H Q => ∃ (L : L2.St) (ρ : Rho) (G B : Hp), Rel X.K L B σ ρ G H ∧ GotP X L W σ G B (c ρ) Q
def tT (X : Cx) (W : WX) (c : CB) : TT := fun σ H Q => ∃ (L : L2.St) (ρ : Rho) (G B : Hp), Rel X.K L B σ ρ G H ∧ GotB X L W σ G B (c ρ) Q
def tA (X : Cx) (W : WX) (c : CA) : TA := fun σ H Q => ∃ (L : L2.St) (ρ : Rho) (G B : Hp), Rel X.K L B σ ρ G H ∧ GotA X L W σ G B (c ρ) Q
def SX (X : Cx) (e : Expr) (c : CE) : Prop := ∀ W : WX, Takes X W → PE X e (tX X W c)
def ST (X : Cx) (e : Expr) (c : CB) : Prop := ∀ W : WX, Takes X W → PT X e (tT X W c)
def SW (X : Cx) (e : Expr) (c : CB) : Prop := ∀ W : WX, Takes X W → PW X e (tT X W c)
def SA (X : Cx) (es : List Expr) (c : CA) : Prop := ∀ W : WX, Takes X W → PA X es (tA X W c)

theorem PEimp {X : Cx} {e : Expr} {t t' : TE} (h : PE X e t) (w : ∀ σ H Q, t' σ H Q → t σ H Q) : PE X e t' := ⟨fun pins s σ H Q I q => h.run pins s σ H Q I (w _ _ _ q)⟩
theorem PTimp {X : Cx} {e : Expr} {t t' : TT} (h : PT X e t) (w : ∀ σ H Q, t' σ H Q → t σ H Q) : PT X e t' := ⟨fun pins s σ H Q I q => h.run pins s σ H Q I (w _ _ _ q)⟩
theorem PWimp {X : Cx} {e : Expr} {t t' : TT} (h : PW X e t) (w : ∀ σ H Q, t' σ H Q → t σ H Q) : PW X e t' := ⟨fun wh pins s σ H Q I q => h.run wh pins s σ H Q I (w _ _ _ q)⟩
theorem PAimp {X : Cx} {e : List Expr} {t t' : TA} (h : PA X e t) (w : ∀ σ H Q, t' σ H Q → t σ H Q) : PA X e t' := ⟨fun pos pins s σ H Q I q => h.run pos pins s σ H Q I (w _ _ _ q)⟩
theorem PSimp {X : Cx} {e : Stmt} {t t' : TS} (h : PS X e t) (w : ∀ D σ H, t' D σ H → t D σ H) : PS X e t' := ⟨fun pins s σ H D I q => h.run pins s σ H D I (w _ _ _ q)⟩
theorem PSsimp {X : Cx} {e : List Stmt} {t t' : TS} (h : PSs X e t) (w : ∀ D σ H, t' D σ H → t D σ H) : PSs X e t' := ⟨fun pins s σ H D I q => h.run pins s σ H D I (w _ _ _ q)⟩

section
variable {X : Cx} {L : L2.St} {W : WX} {σ : L2.St} {G G1 B H : Hp}
/-- behind an expression: its value fixed, the rest -/
theorem Got.bind {γ δ : Type} {P : γ → Rho → Hp → Hp → δ → Prop} {r : R Pl} {k : Pl → Rho → R γ} {Q : δ → Hp → Prop} (h : Got X L W σ G B P (r.bind k) Q) :
    GotP X L W σ G B r (fun v H1 => ∃ (p : Pl) (ρ1 : Rho) (G1 : Hp), r = .ok p ρ1 ∧ Rel X.K L B σ ρ1 G1 H1 ∧ Ext B G G1 ∧ PlFx X.K σ G1 v p ∧ Got X L W σ G1 B P (k p ρ1) fun d H2 => Q d H2) := by
  cases r with
  | ok p ρ1 =>
    intro v H' G' rel ext ok
    obtain ⟨G2, r2, e2, fx⟩ := ok.fix rel
    exact ⟨p, ρ1, G2, rfl, r2, ext.trans e2, fx, Got.shift (ext.trans e2) h⟩
  | exc x ρ' => exact h
  | bad => exact h
theorem Got.bindB {γ δ : Type} {P : γ → Rho → Hp → Hp → δ → Prop} {r : R Bool} {k : Bool → Rho → R γ} {Q : δ → Hp → Prop} (h : Got X L W σ G B P (r.bind k) Q) :
    GotB X L W σ G B r (fun b H1 => ∃ (ρ1 : Rho) (G1 : Hp), r = .ok b ρ1 ∧ Rel X.K L B σ ρ1 G1 H1 ∧ Ext B G G1 ∧ Got X L W σ G1 B P (k b ρ1) fun d H2 => Q d H2) := by
  cases r with
  | ok p ρ1 =>
    intro v H' G' rel ext ok
    subst ok
    exact ⟨ρ1, G', rfl, rel, ext, Got.shift ext h⟩
  | exc x ρ' => exact h
  | bad => exact h
theorem Got.bindA {γ δ : Type} {P : γ → Rho → Hp → Hp → δ → Prop} {r : R (List Pl)} {k : List Pl → Rho → R γ} {Q : δ → Hp → Prop} (h : Got X L W σ G B P (r.bind k) Q) :
    GotA X L W σ G B r (fun vs H1 => ∃ (ps : List Pl) (ρ1 : Rho) (G1 : Hp), r = .ok ps ρ1 ∧ Rel X.K L B σ ρ1 G1 H1 ∧ Ext B G G1 ∧ PlA X.K σ G1 vs ps ∧ Got X L W σ G1 B P (k ps ρ1) fun d H2 => Q d H2) := by
  cases r with
  | ok p ρ1 =>
    intro v H' G' rel ext ok
    exact ⟨p, ρ1, G', rfl, rel, ext, ok, Got.shift ext h⟩
  | exc x ρ' => exact h
  | bad => exact h
end

/-! ### new values -/
theorem Post.lst {K : PySem.W.Frag} {G H : Hp} {p : Addr} {vs : List V} {ds : List D} (h : H p = none) (x : FzA K G vs ds) : Post K G H (.ref p) (upd H p (.lst vs)) (.tmp (.list ds)) :=
  .tmp h (.lst upd_same x)
section
variable {X : Cx} {L : L2.St} {W : WX} {σ : L2.St} {ρ : Rho} {G G1 B H H' : Hp} {v : V} {p : Pl}
theorem Got.done {Q : VK} (r : Rel X.K L B σ ρ G H) (h : GotP X L W σ G B (.ok p ρ) Q) (q : Post X.K G H v H' p) : Q v H' := by
  obtain ⟨G', r', e, ok⟩ := q.ok r
  exact h v H' G' r' e ok
end
def R.ofOpt (o : Option Pl) (ρ : Rho) : R Pl := match o with
  | some p => .ok p ρ
  | none => .bad

/-! ### names, constants -/
def cVar (i : Nat) : CE := fun ρ => match ρ[i]? with
  | some (some (d, .fz)) => .ok (.val d) ρ
  | some (some (d, .lz)) => .ok (.val d) ρ
  | some (some (_, .own)) => .ok (.slot i) ρ
  | some (some (_, .lent)) => .ok (.slot i) ρ
  | _ => .bad
def cLit (d : D) : CE := fun ρ => .ok (.val d) ρ
section
variable {X : Cx} {e a b : Expr} {ca cb : CE} {pos : Pos}
theorem sx_var (i : Nat) {x : Str} {pos : Pos} (hN : X.N[i]? = some x := by rfl) (hv : Vis X.env.scope x := by first | exact Or.inl rfl | exact Or.inr (Or.inl rfl) | exact Or.inr (Or.inr rfl)) (hd : (x == ("__debug__" : Str)) = false := by decide)
    (hcd : (x == ("__classdict__" : Str)) = false := by decide) : SX X (.Name x pos) (cVar i) := fun W _ => PEimp (pe_var hN hv hd hcd) (by
  rintro σ H Q ⟨L, ρ, G, B, rel, h⟩
  unfold cVar at h
  split at h
  · rename_i d q
    obtain ⟨v, h1, h2⟩ := rel.slots i _ q
    exact ⟨v, h1, h v H G rel .refl h2⟩
  · rename_i d q
    obtain ⟨v, h1, h2⟩ := rel.slots i _ q
    exact ⟨v, h1, h v H G rel .refl h2⟩
  · rename_i d q
    obtain ⟨v, h1, h2⟩ := rel.slots i _ q
    exact ⟨v, h1, h v H G rel .refl h1⟩
  · rename_i d q
    obtain ⟨v, h1, h2⟩ := rel.slots i _ q
    exact ⟨v, h1, h v H G rel .refl h1⟩
  · exact h.elim)
theorem sx_const {v : V} {d : D} (hp : PE X e (tC v)) (hf : ∀ G, Fz X.K G v d) : SX X e (cLit d) := fun W _ => PEimp hp (by
  rintro σ H Q ⟨L, ρ, G, B, rel, h⟩
  exact h v H G rel .refl (hf G))
theorem sx_int {i : Int} {j : Nat} : SX X (.Constant (.int i) j pos) (cLit (.int i)) := sx_const pe_int fun _ => .int i
theorem sx_bl {b : Bool} {j : Nat} : SX X (.Constant (.bool b) j pos) (cLit (.bool b)) := sx_const pe_bl fun _ => .bl b
theorem sx_non {j : Nat} : SX X (.Constant .none j pos) (cLit .none) := sx_const pe_non fun _ => .non
theorem sx_str {x : Str} {j : Nat} : SX X (.Constant (.str x) j pos) (cLit (.str x)) := sx_const pe_str fun _ => .str x
/-- a module's int -/
theorem sx_gint {x : Str} {i : Int} (hg : Gl X x) (hm : ∃ t, X.mg x = some (.int i t)) (hd : (x == ("__debug__" : Str)) = false := by decide) : SX X (.Name x pos) (cLit (.int i)) := by
  obtain ⟨t, hm⟩ := hm
  exact sx_const (v := .int i) (pe_glob hg hm ⟨t, rfl⟩ hd) fun _ => .int i
end

/-! ### operations of one and two values -/
def OpOk (K : PySem.W.Frag) (r : R2) (f : D → D → Option Pl) : Prop := ∀ (G H : Hp) (x y : V) (dx dy : D) (p : Pl) (Q : VK), Same G H → Vw K G H x dx → Vw K G H y dy → f dx dy = some p → (∀ v H', Post K G H v H' p → Q v H') → r x y H Q
def cBin (f : D → D → Option Pl) (a b : CE) : CE := fun ρ => (a ρ).bind fun p ρ1 => (b ρ1).bind fun q ρ2 => match look p ρ2, look q ρ2 with
  | some x, some y => .ofOpt (f x y) ρ2
  | _, _ => .bad
def cUn (f : D → Option Pl) (a : CE) : CE := fun ρ => (a ρ).bind fun p ρ1 => match look p ρ1 with
  | some x => .ofOpt (f x) ρ1
  | none => .bad
section
variable {X : Cx} {e a b : Expr} {ca cb : CE} {pos : Pos} {f : D → D → Option Pl} {g : D → Option Pl} {r : R2} {r1 : V → Hp → VK → Prop}
theorem bin_imp {W : WX} (hr : OpOk X.K r f) : ∀ (σ : L2.St) (H : Hp) (Q : VK), tX X W (cBin f ca cb) σ H Q → tOp r (tX X W ca) (tX X W cb) σ H Q := by
  rintro σ H Q ⟨L, ρ, G, B, rel, h⟩
  refine ⟨L, ρ, G, B, rel, (Got.bind h).mono ?_⟩
  rintro x H1 ⟨p, ρ1, G1, _, rel1, _, fx1, h1⟩
  refine ⟨L, ρ1, G1, B, rel1, (Got.bind h1).mono ?_⟩
  rintro y H2 ⟨q, ρ2, G2, _, rel2, ext2, fx2, h2⟩
  cases e1 : look p ρ2 with
  | none => rw [e1] at h2; exact h2.elim
  | some dx =>
    cases e2 : look q ρ2 with
    | none => rw [e1, e2] at h2; exact h2.elim
    | some dy =>
      rw [e1, e2] at h2
      cases e3 : f dx dy with
      | none =>
        simp only [e3] at h2; exact h2.elim
      | some pl =>
        simp only [e3] at h2
        exact hr G2 H2 x y dx dy pl Q rel2.sub ((fx1.mono ext2.same).look rel2 e1) (fx2.look rel2 e2) e3 fun v H' ps => Got.done rel2 h2 ps
theorem sx_bin {op : Operator} (ho : OpR X (binaryOp op) r) (hr : OpOk X.K r f) (ha : SX X a ca) (hb : SX X b cb) : SX X (.BinOp a op b pos) (cBin f ca cb) := fun W tk =>
  PEimp (pe_op ho (ha W tk) (hb W tk)) (bin_imp hr)
theorem sx_cmp {op : CmpOp} (ho : OpR X (compareOp op) r) (hr : OpOk X.K r f) (ha : SX X a ca) (hb : SX X b cb) (hm : behindInMarks op b = false := by first | exact nomark _ | with_unfolding_all rfl) : SX X (.Compare a [op] [b] pos) (cBin f ca cb) := fun W tk =>
  PEimp (pe_cmpR ho (ha W tk) (hb W tk) hm) (bin_imp hr)
theorem sx_ix (hi : IxR X r) (hr : OpOk X.K r f) (ha : SX X a ca) (hb : SX X b cb) (hs : PlainIx b := by exact fun _ _ => rfl) : SX X (.Subscript a b pos) (cBin f ca cb) := fun W tk =>
  PEimp (pe_ix hi (ha W tk) (hb W tk) hs) (bin_imp hr)
/-- a comparison as a test -/
def cTst (c : CE) : CB := fun ρ => (c ρ).bind fun p ρ1 => match look p ρ1 with
  | some (.bool b) => .ok b ρ1
  | _ => .bad
theorem Vw.non {K : PySem.W.Frag} {G H : Hp} {v : V} (h : Vw K G H v .none) : v = .non := by
  rcases h with h | ⟨a, _, h⟩
  · cases h; rfl
  · cases h
theorem Vw.lst {K : PySem.W.Frag} {G H : Hp} {v : V} {ds : List D} (s : Same G H) (h : Vw K G H v (.list ds)) : ∃ a xs, v = .ref a ∧ Rd H a (.lst xs) ∧ FzA K G xs ds := by
  rcases h with h | ⟨a, e, h⟩
  · cases h with
    | lst h1 h2 => exact ⟨_, _, rfl, Same.rd s h1, h2⟩
  · subst e
    cases h with
    | lst h1 h2 => exact ⟨_, _, rfl, .inl h1, h2⟩
/-- a value of True or False as a test -/
theorem tst_imp {W : WX} {c : CE} : ∀ (σ : L2.St) (H : Hp) (Q : Bool → Hp → Prop), tT X W (cTst c) σ H Q → tX X W c σ H (fun x H' => ∃ k, x = .bl k ∧ Q k H') := by
  rintro σ H Q ⟨L, ρ, G, B, rel, h⟩
  refine ⟨L, ρ, G, B, rel, (Got.bind h).mono ?_⟩
  rintro x H1 ⟨p, ρ1, G1, _, rel1, _, fx1, h1⟩
  split at h1
  · rename_i b e1
    refine ⟨b, ((fx1.look rel1 e1)).bool, h1 b H1 G1 rel1 .refl rfl⟩
  · exact h1.elim
theorem st_cmp {op : CmpOp} (ho : OpR X (compareOp op) r) (hr : OpOk X.K r f) (ha : SX X a ca) (hb : SX X b cb) (hm : behindInMarks op b = false := by first | exact nomark _ | with_unfolding_all rfl) : ST X (.Compare a [op] [b] pos) (cTst (cBin f ca cb)) := fun W tk =>
  PTimp (pt_cmpR ho (ha W tk) (hb W tk) hm) fun σ H Q h => bin_imp hr σ H _ (tst_imp σ H Q h)
theorem st_val {c : CE} (h : SX X e c) (he : ∀ whole, isTrue e X.env whole = (do let v ← whole; standAt e.pos; holding [v] (truthy v)) := by intro _; rfl) : ST X e (cTst c) := fun W tk =>
  PTimp (pt_val (h W tk) he) tst_imp
/-! ### and, or, not -/
def cAnd (a b : CB) : CB := fun ρ => (a ρ).bind fun c ρ1 => if c = true then b ρ1 else .ok false ρ1
def cOr (a b : CB) : CB := fun ρ => (a ρ).bind fun c ρ1 => if c = true then .ok true ρ1 else b ρ1
def cNot (a : CB) : CB := fun ρ => (a ρ).bind fun c ρ1 => .ok (!c) ρ1
variable {ba bb : CB} {rest : List Expr}
theorem st_w (h : SW X e ba) : ST X e ba := fun W tk => (h W tk).pt
theorem sw_and1 (ha : ST X a ba) : SW X (.BoolOp .And [a] pos) ba := fun W tk => pw_and1 (ha W tk)
theorem sw_or1 (ha : ST X a ba) : SW X (.BoolOp .Or [a] pos) ba := fun W tk => pw_or1 (ha W tk)
theorem sw_and (ha : ST X a ba) (hb : SW X (.BoolOp .And (b :: rest) pos) bb) : SW X (.BoolOp .And (a :: b :: rest) pos) (cAnd ba bb) := fun W tk =>
  PWimp (pw_and (ha W tk) (hb W tk)) (by
    rintro σ H Q ⟨L, ρ, G, B, rel, h⟩
    refine ⟨L, ρ, G, B, rel, (Got.bindB h).mono ?_⟩
    rintro c H1 ⟨ρ1, G1, _, rel1, _, h1⟩
    cases c with
    | true => rw [if_pos rfl] at h1 ⊢; exact ⟨L, ρ1, G1, B, rel1, h1⟩
    | false => rw [if_neg Bool.false_ne_true] at h1 ⊢; exact h1 false H1 G1 rel1 .refl rfl)
theorem sw_or (ha : ST X a ba) (hb : SW X (.BoolOp .Or (b :: rest) pos) bb) : SW X (.BoolOp .Or (a :: b :: rest) pos) (cOr ba bb) := fun W tk =>
  PWimp (pw_or (ha W tk) (hb W tk)) (by
    rintro σ H Q ⟨L, ρ, G, B, rel, h⟩
    refine ⟨L, ρ, G, B, rel, (Got.bindB h).mono ?_⟩
    rintro c H1 ⟨ρ1, G1, _, rel1, _, h1⟩
    cases c with
    | true => rw [if_pos rfl] at h1 ⊢; exact h1 true H1 G1 rel1 .refl rfl
    | false => rw [if_neg Bool.false_ne_true] at h1 ⊢; exact ⟨L, ρ1, G1, B, rel1, h1⟩)
theorem st_not (ha : ST X a ba) : ST X (.UnaryOp .Not a pos) (cNot ba) := fun W tk => PTimp (pt_not (ha W tk)) (by
    rintro σ H Q ⟨L, ρ, G, B, rel, h⟩
    refine ⟨L, ρ, G, B, rel, (Got.bindB h).mono ?_⟩
    rintro c H1 ⟨ρ1, G1, _, rel1, _, h1⟩
    exact h1 (!c) H1 G1 rel1 .refl rfl)
def cAndV (a b : CE) : CE := fun ρ => (cTst a ρ).bind fun c ρ1 => if c = true then b ρ1 else .ok (.val (.bool false)) ρ1
def cOrV (a b : CE) : CE := fun ρ => (cTst a ρ).bind fun c ρ1 => if c = true then .ok (.val (.bool true)) ρ1 else b ρ1
def cNotV (a : CE) : CE := fun ρ => (cTst a ρ).bind fun c ρ1 => .ok (.val (.bool (!c))) ρ1
theorem tst_bind {W : WX} {c : CE} {k : Bool → Rho → R Pl} {σ : L2.St} {H : Hp} {Q : VK} (h : tX X W (fun ρ => (cTst c ρ).bind k) σ H Q) :
    tX X W c σ H (fun x H1 => ∃ b, x = .bl b ∧ ∃ (L : L2.St) (ρ1 : Rho) (G1 B : Hp), Rel X.K L B σ ρ1 G1 H1 ∧ GotP X L W σ G1 B (k b ρ1) Q) := by
  obtain ⟨L, ρ, G, B, rel, h⟩ := h
  have h2 : tT X W (cTst c) σ H (fun b H1 => ∃ (L : L2.St) (ρ1 : Rho) (G1 B : Hp), Rel X.K L B σ ρ1 G1 H1 ∧ GotP X L W σ G1 B (k b ρ1) Q) := by
    refine ⟨L, ρ, G, B, rel, (Got.bindB h).mono ?_⟩
    rintro b H1 ⟨ρ1, G1, _, rel1, _, h1⟩
    exact ⟨L, ρ1, G1, B, rel1, h1⟩
  exact tst_imp σ H _ h2
theorem sx_one {op : BoolOp} (h : SX X a ca) : SX X (.BoolOp op [a] pos) ca := fun W tk => pe_one (h W tk)
theorem sx_and (ha : SX X a ca) (hb : SX X (.BoolOp .And (b :: rest) pos) cb) : SX X (.BoolOp .And (a :: b :: rest) pos) (cAndV ca cb) := fun W tk =>
  PEimp (pe_and (ha W tk) (hb W tk)) (by
    intro σ H Q h
    obtain ⟨L, ρ, G, B, rel, h0⟩ := tst_bind h
    refine ⟨L, ρ, G, B, rel, h0.mono ?_⟩
    rintro x H1 ⟨c, rfl, L1, ρ1, G1, B1, rel1, h1⟩
    refine ⟨c, rfl, ?_⟩
    cases c with
    | true => rw [if_pos rfl] at h1 ⊢; exact ⟨L1, ρ1, G1, B1, rel1, h1⟩
    | false => rw [if_neg Bool.false_ne_true] at h1 ⊢; exact h1 (.bl false) H1 G1 rel1 .refl (.bl false))
theorem sx_not (ha : SX X a ca) : SX X (.UnaryOp .Not a pos) (cNotV ca) := fun W tk =>
  PEimp (pe_not (ha W tk)) (by
    intro σ H Q h
    obtain ⟨L, ρ, G, B, rel, h0⟩ := tst_bind h
    refine ⟨L, ρ, G, B, rel, h0.mono ?_⟩
    rintro x H1 ⟨c, rfl, L1, ρ1, G1, B1, rel1, h1⟩
    exact ⟨c, rfl, h1 (.bl (!c)) H1 G1 rel1 .refl (.bl _)⟩)
/-- a if t else b -/
def cIte (t : CB) (a b : CE) : CE := fun ρ => (t ρ).bind fun c ρ1 => if c = true then a ρ1 else b ρ1
/-! ### argument lists, displays -/
def cNil : CA := fun ρ => .ok [] ρ
def cCons (a : CE) (r : CA) : CA := fun ρ => (a ρ).bind fun p ρ1 => (r ρ1).bind fun ps ρ2 => .ok (p :: ps) ρ2
variable {es : List Expr} {cr : CA}
theorem sa_nil : SA X [] cNil := fun W tk => PAimp pa_nil (by
  rintro σ H Q ⟨L, ρ, G, B, rel, h⟩
  exact h [] H G rel .refl .nil)
theorem sa_cons (ha : SX X e ca) (hr : SA X es cr) (hs : starEach (e :: es) X.env = (false, eval e X.env) :: starEach es X.env := by rfl) : SA X (e :: es) (cCons ca cr) := fun W tk =>
  PAimp (pa_cons (ha W tk) (hr W tk) hs) (by
    rintro σ H Q ⟨L, ρ, G, B, rel, h⟩
    refine ⟨L, ρ, G, B, rel, (Got.bind h).mono ?_⟩
    rintro x H1 ⟨p, ρ1, G1, _, rel1, _, fx1, h1⟩
    refine ⟨L, ρ1, G1, B, rel1, (Got.bindA h1).mono ?_⟩
    rintro xs H2 ⟨ps, ρ2, G2, _, rel2, ext2, fx2, h2⟩
    exact h2 (x :: xs) H2 G2 rel2 .refl (.cons (fx1.mono ext2.same) fx2))
/-- all values frozen -/
def frzA : List Pl → Rho → Option (List D × Rho)
  | [], ρ => some ([], ρ)
  | p :: ps, ρ => match frz p ρ with
    | some (d, ρ1) => match frzA ps ρ1 with
      | some (ds, ρ2) => some (d :: ds, ρ2)
      | none => none
    | none => none
def lookA (ps : List Pl) (ρ : Rho) : Option (List D) := match ps with
  | [] => some []
  | p :: ps => match look p ρ, lookA ps ρ with
    | some d, some ds => some (d :: ds)
    | _, _ => none
theorem PlA.frz {K : PySem.W.Frag} {L : L2.St} {B H : Hp} {σ : L2.St} : ∀ {ps : List Pl} {vs : List V} {ρ ρ' : Rho} {G : Hp} {ds : List D}, Rel K L B σ ρ G H → PlA K σ G vs ps → frzA ps ρ = some (ds, ρ') → ∃ G', Rel K L B σ ρ' G' H ∧ Ext B G G' ∧ FzA K G' vs ds
  | [], _, ρ, _, G, _, r, .nil, e => by cases e; exact ⟨G, r, .refl, .nil⟩
  | p :: ps, _, ρ, ρ', G, ds, r, .cons (vs := vs) a b, e => by
    unfold frzA at e
    cases e1 : TN.frz p ρ with
    | none => simp [e1] at e
    | some q =>
      obtain ⟨d, ρ1⟩ := q
      simp only [e1] at e
      cases e2 : frzA ps ρ1 with
      | none => simp [e2] at e
      | some q =>
        obtain ⟨ds', ρ2⟩ := q
        simp only [e2, Option.some.injEq, Prod.mk.injEq] at e
        obtain ⟨rfl, rfl⟩ := e
        obtain ⟨G1, r1, x1, f1⟩ := a.frz r e1
        obtain ⟨G2, r2, x2, f2⟩ := PlA.frz r1 (b.mono x1.same) e2
        exact ⟨G2, r2, x1.trans x2, .cons (f1.mono x2.same) f2⟩
def cTup (c : CA) : CE := fun ρ => (c ρ).bind fun ps ρ1 => match frzA ps ρ1 with
  | some (ds, ρ2) => if ds.length ≤ 16777216 then .ok (.val (.tuple ds)) ρ2 else .bad
  | none => .bad
def cLst (c : CA) : CE := fun ρ => (c ρ).bind fun ps ρ1 => match frzA ps ρ1 with
  | some (ds, ρ2) => if ds.length ≤ 16777216 then .ok (.tmp (.list ds)) ρ2 else .bad
  | none => .bad
theorem disp_imp {W : WX} {m : List D → Pl} {o : List V → HO} {σ : L2.St} {H : Hp} {Q : VK} (hp : ∀ (G H : Hp) (p : Addr) (vs : List V) (ds : List D), H p = none → FzA X.K G vs ds → Post X.K G H (.ref p) (upd H p (o vs)) (m ds))
    (h : tX X W (fun ρ => (cr ρ).bind fun ps ρ1 => match frzA ps ρ1 with
      | some (ds, ρ2) => if ds.length ≤ 16777216 then .ok (m ds) ρ2 else .bad
      | none => .bad) σ H Q) : tA X W cr σ H (fun xs H1 => xs.length ≤ sizeLine ∧ ∀ p, H1 p = none → Q (.ref p) (upd H1 p (o xs))) := by
  obtain ⟨L, ρ, G, B, rel, h⟩ := h
  refine ⟨L, ρ, G, B, rel, (Got.bindA h).mono ?_⟩
  rintro xs H1 ⟨ps, ρ1, G1, _, rel1, _, fx1, h1⟩
  cases e1 : frzA ps ρ1 with
  | none => simp only [e1] at h1; exact h1.elim
  | some q =>
    obtain ⟨ds, ρ2⟩ := q
    simp only [e1] at h1
    obtain ⟨G2, r2, x2, f2⟩ := fx1.frz rel1 e1
    by_cases hl : ds.length ≤ 16777216
    · rw [if_pos hl] at h1
      refine ⟨by rw [f2.length, sizeLine_eq]; exact hl, fun p hpn => Got.done r2 (Got.shift x2 h1) (hp _ _ _ _ _ hpn f2)⟩
    · rw [if_neg hl] at h1; exact h1.elim
theorem dispK_imp {W : WX} {σ : L2.St} {H : Hp} {Q : VK}
    (h : tX X W (fun ρ => (cr ρ).bind fun ps ρ1 => match frzA ps ρ1 with
      | some (ds, ρ2) => if ds.length ≤ 16777216 then .ok (.val (.tuple ds)) ρ2 else .bad
      | none => .bad) σ H Q) : tA X W cr σ H (fun xs H1 => xs.length ≤ sizeLine ∧ ∀ (p : Addr) (o : Obj), H1 p = none → o.dict = none → Q (.ref p) (upd H1 p (.frz o (.tup xs)))) := by
  obtain ⟨L, ρ, G, B, rel, h⟩ := h
  refine ⟨L, ρ, G, B, rel, (Got.bindA h).mono ?_⟩
  rintro xs H1 ⟨ps, ρ1, G1, _, rel1, _, fx1, h1⟩
  cases e1 : frzA ps ρ1 with
  | none => simp only [e1] at h1; exact h1.elim
  | some q =>
    obtain ⟨ds, ρ2⟩ := q
    simp only [e1] at h1
    obtain ⟨G2, r2, x2, f2⟩ := fx1.frz rel1 e1
    by_cases hl : ds.length ≤ 16777216
    · rw [if_pos hl] at h1
      refine ⟨by rw [f2.length, sizeLine_eq]; exact hl, fun p o hpn hd => Got.done r2 (Got.shift x2 h1) (.tup hpn hd f2)⟩
    · rw [if_neg hl] at h1; exact h1.elim
theorem sx_tup {x1 : Nat} (h : SA X es cr) : SX X (.Tuple es x1 pos) (cTup cr) := fun W tk => PEimp (pe_tupK (h W tk)) fun σ H Q q => dispK_imp q
theorem sx_lst (h : SA X es cr) : SX X (.List es pos) (cLst cr) := fun W tk => PEimp (pe_lst (h W tk)) fun σ H Q q => disp_imp (o := .lst) (fun _ _ _ _ _ a b => .lst a b) q

/-! ### built-ins called -/
theorem PlA.look {K : PySem.W.Frag} {L : L2.St} {B H G : Hp} {σ : L2.St} {ρ : Rho} (r : Rel K L B σ ρ G H) : ∀ {ps : List Pl} {vs : List V} {ds : List D}, PlA K σ G vs ps → lookA ps ρ = some ds → VwA K G H vs ds
  | [], _, _, .nil, e => by cases e; exact .nil
  | p :: ps, _, ds, .cons a b, e => by
    unfold lookA at e
    cases e1 : TN.look p ρ with
    | none => simp [e1] at e
    | some d =>
      cases e2 : lookA ps ρ with
      | none => simp [e1, e2] at e
      | some ds' =>
        simp only [e1, e2, Option.some.injEq] at e
        subst e
        exact .cons (a.look r e1) (PlA.look r b e2)
def CallOk (K : PySem.W.Frag) (r : List V → Hp → VK → Prop) (f : List D → Option Pl) : Prop := ∀ (G H : Hp) (xs : List V) (ds : List D) (p : Pl) (Q : VK), Same G H → VwA K G H xs ds → f ds = some p → (∀ v H', Post K G H v H' p → Q v H') → r xs H Q
def cFn (f : List D → Option Pl) (c : CA) : CE := fun ρ => (c ρ).bind fun ps ρ1 => match lookA ps ρ1 with
  | some ds => .ofOpt (f ds) ρ1
  | none => .bad
variable {rc : List V → Hp → VK → Prop} {fc : List D → Option Pl} {x : Str} {p : Pos} {id T : String}
theorem fn_imp {W : WX} (hr : CallOk X.K rc fc) : ∀ (σ : L2.St) (H : Hp) (Q : VK), tX X W (cFn fc cr) σ H Q → tCB rc (tA X W cr) σ H Q := by
  rintro σ H Q ⟨L, ρ, G, B, rel, h⟩
  refine ⟨L, ρ, G, B, rel, (Got.bindA h).mono ?_⟩
  rintro xs H1 ⟨ps, ρ1, G1, _, rel1, _, fx1, h1⟩
  cases e1 : lookA ps ρ1 with
  | none => simp only [e1] at h1; exact h1.elim
  | some ds =>
    simp only [e1] at h1
    cases e2 : fc ds with
    | none => simp only [e2] at h1; exact h1.elim
    | some pl =>
      simp only [e2] at h1
      exact hr G1 H1 xs ds pl Q rel1.sub (fx1.look rel1 e1) e2 fun v H' ps => Got.done rel1 h1 ps
theorem sx_callB (hc : CallR X (.builtin id) rc) (hr : CallOk X.K rc fc) (hg : Gl X x) (hm : X.mg x = none) (hv : bootBuiltins x = some (.builtin id)) (ha : SA X (e :: es) cr) (hn : x ≠ "__name__" := by decide) (hdb : (x == ("__debug__" : Str)) = false := by decide)
    (he : starEach (e :: es) X.env = (false, eval e X.env) :: starEach es X.env := by rfl) (hpl : (backTo pos (starEach es X.env)).any (·.1) = false := by rfl) : SX X (.Call (.Name x p) (e :: es) [] pos) (cFn fc cr) := fun W tk =>
  PEimp (pe_callB hc hg hm hv (ha W tk) hn hdb he hpl) (fn_imp hr)
theorem sx_callTy (hc : CallR X (.type T) rc) (hr : CallOk X.K rc fc) (hg : Gl X x) (hm : X.mg x = none) (hv : bootBuiltins x = some (.type T)) (ha : SA X (e :: es) cr) (hn : x ≠ "__name__" := by decide) (hdb : (x == ("__debug__" : Str)) = false := by decide)
    (he : starEach (e :: es) X.env = (false, eval e X.env) :: starEach es X.env := by rfl) (hpl : (backTo pos (starEach es X.env)).any (·.1) = false := by rfl) : SX X (.Call (.Name x p) (e :: es) [] pos) (cFn fc cr) := fun W tk =>
  PEimp (pe_callTy hc hg hm hv (ha W tk) hn hdb he hpl) (fn_imp hr)
end
end TN
namespace TN
open PySem PySem.Spec PyProof.Rows L2

/-! ### storing -/
section
variable {K : PySem.W.Frag} {L : L2.St} {B G H H' : Hp} {σ : L2.St} {ρ : Rho} {v : V} {d : D} {i : Nat}
def canSet (ρ : Rho) (i : Nat) : Bool := match ρ[i]? with
  | some (some (_, .lent)) => false
  | some (some (_, .lz)) => false
  | some _ => true
  | none => false
theorem canSet_lt (h : canSet ρ i = true) : i < ρ.length := by
  unfold canSet at h
  cases q : ρ[i]? with
  | none => rw [q] at h; cases h
  | some o => exact (List.getElem?_eq_some_iff.mp q).1
theorem canSet_lent (h : canSet ρ i = true) {d : D} {m : Md} (e : ρ[i]? = some (some (d, m))) : m ≠ .lent ∧ m ≠ .lz := by
  unfold canSet at h
  rw [e] at h
  constructor <;> (rintro rfl; cases h)
/-- a name gets a value -/
theorem Rel.store (r : Rel K L B σ ρ G H) (hi : canSet ρ i = true) {p : D × Md} (hm : p.2 = .fz ∨ p.2 = .own) (ok : SlotOk K G H B v p)
    (hs : p.2 = .own → ∀ (j : Nat) (q : D × Md), ρ[j]? = some (some q) → q.2.isFz = false → σ[j]? ≠ some (some v)) : Rel K L B (σ.set i (some v)) (ρ.set i (some p)) G H := by
  have hlt := canSet_lt hi
  have hlt' : i < σ.length := by rw [← r.len]; exact hlt
  have pf : p.2.isFz = false → p.2 = .own := fun z => by
    rcases hm with h | h
    · rw [h] at z; cases z
    · exact h
  refine ⟨r.sub, r.base, by simpa using r.len, fun j q hq => ?_, fun j k q q' w hjk hq hq' hf hf' hw => ?_, fun j w hw => ?_⟩
  · by_cases hj : j = i
    · subst hj
      rw [List.getElem?_set_self hlt] at hq; cases hq
      exact ⟨v, List.getElem?_set_self hlt', ok⟩
    · rw [List.getElem?_set_ne (Ne.symm hj)] at hq
      obtain ⟨w, h1, h2⟩ := r.slots j q hq
      exact ⟨w, by rw [List.getElem?_set_ne (Ne.symm hj)]; exact h1, h2⟩
  · by_cases hj : j = i
    · subst hj
      rw [List.getElem?_set_self hlt] at hq; cases hq
      rw [List.getElem?_set_self hlt'] at hw; cases hw
      rw [List.getElem?_set_ne hjk] at hq' ⊢
      exact hs (pf hf) k q' hq' hf'
    · rw [List.getElem?_set_ne (Ne.symm hj)] at hq hw
      by_cases hk : k = i
      · subst hk
        rw [List.getElem?_set_self hlt] at hq'; cases hq'
        rw [List.getElem?_set_self hlt']
        intro z; cases z
        exact hs (pf hf') j q hq hf hw
      · rw [List.getElem?_set_ne (Ne.symm hk)] at hq' ⊢
        exact r.sep j k q q' w hjk hq hq' hf hf' hw
  · obtain ⟨h1, d1, m1, h2, h3⟩ := r.lent j w hw
    have hj : j ≠ i := fun z => by
      subst z
      obtain ⟨n1, n2⟩ := canSet_lent hi h2
      rcases h3 with z | z
      · exact n1 z
      · exact n2 z
    exact ⟨by rw [List.getElem?_set_ne (Ne.symm hj)]; exact h1, d1, m1, by rw [List.getElem?_set_ne (Ne.symm hj)]; exact h2, h3⟩
/-- a name is forgotten -/
theorem Rel.forget (r : Rel K L B σ ρ G H) (hi : canSet ρ i = true) : Rel K L B σ (ρ.set i none) G H := by
  have hlt := canSet_lt hi
  have out : ∀ {j : Nat} {q : D × Md}, (ρ.set i none)[j]? = some (some q) → j ≠ i ∧ ρ[j]? = some (some q) := fun {j q} h => by
    by_cases hj : j = i
    · subst hj; rw [List.getElem?_set_self hlt] at h; cases h
    · rw [List.getElem?_set_ne (Ne.symm hj)] at h; exact ⟨hj, h⟩
  refine ⟨r.sub, r.base, by simpa using r.len, fun j q hq => r.slots j q (out hq).2, fun j k q q' w hjk hq hq' hf hf' hw => r.sep j k q q' w hjk (out hq).2 (out hq').2 hf hf' hw, fun j w hw => ?_⟩
  obtain ⟨h1, d1, m1, h2, h3⟩ := r.lent j w hw
  have hj : j ≠ i := fun z => by
    subst z
    obtain ⟨n1, n2⟩ := canSet_lent hi h2
    rcases h3 with z | z
    · exact n1 z
    · exact n2 z
  exact ⟨h1, d1, m1, by rw [List.getElem?_set_ne (Ne.symm hj)]; exact h2, h3⟩
end
/-- name i = what p is -/
def store (i : Nat) (p : Pl) (ρ : Rho) : Option Rho := match p with
  | .val d => if canSet ρ i = true then some (ρ.set i (some (d, .fz))) else none
  | .tmp d => if canSet ρ i = true then some (ρ.set i (some (d, .own))) else none
  | .slot j => match frz (.slot j) ρ with
    | some (d, ρ1) => if canSet ρ1 i = true then some (ρ1.set i (some (d, .fz))) else none
    | none => none
theorem store_ok' {K : PySem.W.Frag} {L : L2.St} {B G H : Hp} {σ : L2.St} {ρ ρ' : Rho} {v : V} {i : Nat} {p : Pl} (r : Rel K L B σ ρ G H) (ok : PlOk K B σ ρ G H v p) (e : store i p ρ = some ρ') :
    ∃ G', Rel K L B (σ.set i (some v)) ρ' G' H ∧ Ext B G G' := by
  cases p with
  | val d =>
    by_cases hc : canSet ρ i = true
    · simp only [store, if_pos hc, Option.some.injEq] at e; subst e
      exact ⟨G, r.store hc (.inl rfl) ok (fun z => by cases z), .refl⟩
    · simp only [store, if_neg hc] at e; cases e
  | tmp d =>
    by_cases hc : canSet ρ i = true
    · simp only [store, if_pos hc, Option.some.injEq] at e; subst e
      obtain ⟨a, rfl, h1, h2, c, hs⟩ := ok
      exact ⟨G, r.store hc (.inr rfl) ⟨a, rfl, h1, h2, c⟩ (fun _ => hs), .refl⟩
    · simp only [store, if_neg hc] at e; cases e
  | slot j =>
    unfold store at e
    cases q : frz (.slot j) ρ with
    | none => simp only [q] at e; cases e
    | some w =>
      obtain ⟨d, ρ1⟩ := w
      simp only [q] at e
      by_cases hc : canSet ρ1 i = true
      · simp only [if_pos hc, Option.some.injEq] at e; subst e
        obtain ⟨G1, r1, x1, f1⟩ := PlFx.frz (p := .slot j) r ok q
        exact ⟨G1, r1.store hc (.inl rfl) f1 (fun z => by cases z), x1⟩
      · simp only [if_neg hc] at e; cases e

/-! ### statements -/
def tS (X : Cx) (W : WX) (c : CS) : TS := fun Dn σ H => ∃ (L : L2.St) (ρ : Rho) (G B : Hp), Rel X.K L B σ ρ G H ∧ GotS X L W G B (c ρ) Dn
abbrev Pas (X : Cx) : Prop := PassesOwn (model X.prog X.w) X.A X.env X.xe
def SS (X : Cx) (s : Stmt) (c : CS) : Prop := ∀ W : WX, Takes X W → Pas X → PS X s (tS X W c)
def SSs (X : Cx) (s : List Stmt) (c : CS) : Prop := ∀ W : WX, Takes X W → Pas X → PSs X s (tS X W c)
def R.toS (r : R Pl) (k : Pl → Rho → RS) : RS := match r with
  | .ok p ρ => k p ρ
  | .exc x ρ => .exc x ρ
  | .bad => .bad
def R.toSB (r : R Bool) (k : Bool → Rho → RS) : RS := match r with
  | .ok p ρ => k p ρ
  | .exc x ρ => .exc x ρ
  | .bad => .bad
section
variable {X : Cx} {L : L2.St} {W : WX} {G G1 B : Hp}
theorem GotS.expr {σ : L2.St} {r : R Pl} {k : Pl → Rho → RS} {Dn : Ends} (h : GotS X L W G B (r.toS k) Dn) :
    GotP X L W σ G B r (fun v H1 => ∃ (p : Pl) (ρ1 : Rho) (G1 : Hp), r = .ok p ρ1 ∧ Rel X.K L B σ ρ1 G1 H1 ∧ Ext B G G1 ∧ PlOk X.K B σ ρ1 G1 H1 v p ∧ GotS X L W G1 B (k p ρ1) Dn) := by
  cases r with
  | ok p ρ1 => exact fun v H' G' rel ext ok => ⟨p, ρ1, G', rfl, rel, ext, ok, GotS.shift ext h⟩
  | exc x ρ' => exact fun c d H' G' rel ext ok => h c d σ H' G' rel ext ok
  | bad => exact h
theorem GotS.test {σ : L2.St} {r : R Bool} {k : Bool → Rho → RS} {Dn : Ends} (h : GotS X L W G B (r.toSB k) Dn) :
    GotB X L W σ G B r (fun b H1 => ∃ (ρ1 : Rho) (G1 : Hp), r = .ok b ρ1 ∧ Rel X.K L B σ ρ1 G1 H1 ∧ Ext B G G1 ∧ GotS X L W G1 B (k b ρ1) Dn) := by
  cases r with
  | ok p ρ1 => exact fun v H' G' rel ext ok => by subst ok; exact ⟨ρ1, G', rfl, rel, ext, GotS.shift ext h⟩
  | exc x ρ' => exact fun c d H' G' rel ext ok => h c d σ H' G' rel ext ok
  | bad => exact h
end
def cSeq (a b : CS) : CS := fun ρ => match a ρ with
  | .nx ρ1 => b ρ1
  | .ret d fr ρ1 => .ret d fr ρ1
  | .exc x ρ1 => .exc x ρ1
  | .bad => .bad
def cSkip : CS := fun ρ => .nx ρ
def cNever : CS := fun _ => .bad
def cRaise (x : Str) : CS := fun ρ => .exc ⟨x, []⟩ ρ
def cDrop (c : CE) : CS := fun ρ => (c ρ).toS fun _ ρ1 => .nx ρ1
def retP (p : Pl) (ρ : Rho) : RS := match p with
  | .val d => .ret d false ρ
  | .tmp d => .ret d true ρ
  | .slot i => match ρ[i]? with
    | some (some (d, .own)) => .ret d true (ρ.set i none)
    | some (some (d, .lent)) => .ret d false (ρ.set i (some (d, .lz)))
    | _ => .bad
def cRet (c : CE) : CS := fun ρ => (c ρ).toS retP
def cRetN : CS := fun ρ => .ret .none false ρ
def cIf (t : CB) (a b : CS) : CS := fun ρ => (t ρ).toSB fun k ρ1 => if k = true then a ρ1 else b ρ1
def cSet (i : Nat) (c : CE) : CS := fun ρ => (c ρ).toS fun p ρ1 => match store i p ρ1 with
  | some ρ2 => .nx ρ2
  | none => .bad
def forL (g : D → Rho → Option Rho) (b : CS) : List D → CS
  | [], ρ => .nx ρ
  | d :: ds, ρ => match g d ρ with
    | none => .bad
    | some ρ1 => match b ρ1 with
      | .nx ρ2 => forL g b ds ρ2
      | .ret d fr ρ2 => .ret d fr ρ2
      | .exc x ρ2 => .exc x ρ2
      | .bad => .bad
section
variable {X : Cx} {st : Stmt} {sts : List Stmt} {a b : CS} {e : Expr} {c : CE} {t : CB} {pos pos' : Pos}
theorem tS_nx {W : WX} {Dn : Ends} {σ : L2.St} {H : Hp} (h : tS X W cSkip Dn σ H) : Dn.nx σ H := by
  obtain ⟨L, ρ, G, B, rel, h⟩ := h
  exact h σ H G rel .refl
theorem ss_nil : SSs X [] cSkip := fun W _ _ => PSsimp pss_nil fun D σ H h => tS_nx h
theorem ss_one (h : SS X st a) : SSs X [st] a := fun W tk ps => pss_one (h W tk ps)
theorem seq_imp {W : WX} {Dn : Ends} {σ : L2.St} {H : Hp} (h : tS X W (cSeq a b) Dn σ H) : tS X W a { Dn with nx := tS X W b Dn } σ H := by
  obtain ⟨L, ρ, G, B, rel, h⟩ := h
  refine ⟨L, ρ, G, B, rel, ?_⟩
  unfold cSeq at h
  cases q : a ρ with
  | nx ρ1 => rw [q] at h; exact fun σ' H' G' r1 x1 => ⟨L, ρ1, G', B, r1, GotS.shift x1 h⟩
  | ret d fr ρ1 => rw [q] at h; exact h
  | exc x ρ1 => rw [q] at h; exact h
  | bad => rw [q] at h; exact h.elim
theorem ss_cons (h1 : SS X st a) (h2 : SSs X sts b) : SSs X (st :: sts) (cSeq a b) := fun W tk ps => PSsimp (pss_cons (h1 W tk ps) (h2 W tk ps)) fun D σ H h => seq_imp h
theorem ss_expr (he : SX X e c) (hs : swapsWith e none pos.line X.env = pure false := by rfl) : SS X (.Expr e pos) (cDrop c) := fun W tk _ => PSimp (ps_expr (he W tk) hs) (by
  rintro D σ H ⟨L, ρ, G, B, rel, h⟩
  refine ⟨L, ρ, G, B, rel, (GotS.expr (k := fun _ ρ1 => RS.nx ρ1) h).mono ?_⟩
  rintro v H1 ⟨p, ρ1, G1, _, rel1, _, _, h1⟩
  exact h1 σ H1 G1 rel1 .refl)
theorem ret_ok {L : L2.St} {W : WX} {G B H : Hp} {σ : L2.St} {ρ : Rho} {p : Pl} {v : V} {Dn : Ends} (rel : Rel X.K L B σ ρ G H) (ok : PlOk X.K B σ ρ G H v p) (h : GotS X L W G B (retP p ρ) Dn) : Dn.rt v H := by
  cases p with
  | val d => exact h v σ H G rel .refl ok
  | tmp d => exact h v σ H G rel .refl ok
  | slot i =>
    have hv : σ[i]? = some (some v) := ok
    unfold retP at h
    cases q : ρ[i]? with
    | none => simp only [q] at h; exact h.elim
    | some o =>
      cases o with
      | none => simp only [q] at h; exact h.elim
      | some w =>
        obtain ⟨d, m⟩ := w
        cases m with
        | fz => simp only [q] at h; exact h.elim
        | lz => simp only [q] at h; exact h.elim
        | own =>
          simp only [q] at h
          obtain ⟨v', h1, h2⟩ := rel.slots i _ q
          rw [hv] at h1; cases h1
          obtain ⟨a, rfl, h3, h4, c⟩ := h2
          have hc : canSet ρ i = true := by unfold canSet; rw [q]
          refine h (.ref a) σ H G (rel.forget hc) .refl ⟨a, rfl, h3, h4, c, fun j w hj hf => ?_⟩
          by_cases hji : j = i
          · subst hji
            rw [List.getElem?_set_self (canSet_lt hc)] at hj; cases hj
          · rw [List.getElem?_set_ne (Ne.symm hji)] at hj
            exact fun z => rel.sep j i w (d, .own) (.ref a) hji hj q hf rfl z hv
        | lent =>
          simp only [q] at h
          have fe : frz (.slot i) ρ = some (d, ρ.set i (some (d, .lz))) := by unfold frz; simp only [q]
          obtain ⟨G1, r1, x1, f1⟩ := PlFx.frz (p := .slot i) rel hv fe
          exact h v σ H G1 r1 x1 f1
theorem ss_ret (he : SX X e c) : SS X (.Return (some e) pos) (cRet c) := fun W tk _ => PSimp (ps_ret (he W tk)) (by
  rintro D σ H ⟨L, ρ, G, B, rel, h⟩
  refine ⟨L, ρ, G, B, rel, (GotS.expr h).mono ?_⟩
  rintro v H1 ⟨p, ρ1, G1, _, rel1, _, ok, h1⟩
  exact ret_ok rel1 ok h1)
theorem ss_if {t' : Expr} {s1 s2 : List Stmt} (ht : ST X t' t) (ha : SSs X s1 a) (hb : SSs X s2 b) : SS X (.If t' s1 s2 pos) (cIf t a b) := fun W tk ps => PSimp (ps_if (ht W tk) (ha W tk ps) (hb W tk ps)) (by
  rintro D σ H ⟨L, ρ, G, B, rel, h⟩
  refine ⟨L, ρ, G, B, rel, (GotS.test h).mono ?_⟩
  rintro k H1 ⟨ρ1, G1, _, rel1, _, h1⟩
  cases k with
  | true => rw [if_pos rfl] at h1 ⊢; exact ⟨L, ρ1, G1, B, rel1, h1⟩
  | false => rw [if_neg Bool.false_ne_true] at h1 ⊢; exact ⟨L, ρ1, G1, B, rel1, h1⟩)
theorem set_imp {W : WX} {i : Nat} {Dn : Ends} {σ : L2.St} {H : Hp} (h : tS X W (cSet i c) Dn σ H) : tX X W c σ H (fun x H1 => gName i x σ H1 Dn.nx) := by
  obtain ⟨L, ρ, G, B, rel, h⟩ := h
  refine ⟨L, ρ, G, B, rel, (GotS.expr h).mono ?_⟩
  rintro v H1 ⟨p, ρ1, G1, _, rel1, _, ok, h1⟩
  cases q : store i p ρ1 with
  | none => simp only [q] at h1; exact h1.elim
  | some ρ2 =>
    simp only [q] at h1
    obtain ⟨G2, r2, x2⟩ := store_ok' rel1 ok q
    exact h1 _ H1 G2 r2 x2
theorem ss_set (i : Nat) {x : Str} (hN : X.N.Nodup) (he : SX X e c) (hi : X.N[i]? = some x := by rfl) (hx : Loc X.env.scope x := by first | exact Or.inl rfl | exact Or.inr rfl) (hs : swapsWith e (some (.Name x pos')) pos.line X.env = pure false := by rfl)
    (hf : X.fn x = true ∨ X.env.scope.names.lookup x = some .local := by first | exact .inl rfl | exact .inr rfl | assumption) : SS X (.Assign [.Name x pos'] e pos) (cSet i c) := fun W tk _ =>
  PSimp (ps_set hN hi hx (he W tk) hs hf) fun D σ H h => set_imp h
/-! ### targets -/
def tG (X : Cx) (vs : List Nat) (g : D → Rho → Option Rho) : TG := fun v σ H Q => ∃ (L : L2.St) (ρ : Rho) (G B : Hp) (d : D), Rel X.K L B σ ρ G H ∧ Fz X.K G v d ∧ match g d ρ with
  | some ρ' => ∀ (σ' : L2.St) (H' G' : Hp), Rel X.K L B σ' ρ' G' H' → Ext B G G' → Only vs σ σ' → Q σ' H'
  | none => False
def tGs (X : Cx) (vs : List Nat) (g : List D → Rho → Option Rho) : TGs := fun xs σ H Q => ∃ (L : L2.St) (ρ : Rho) (G B : Hp) (ds : List D), Rel X.K L B σ ρ G H ∧ FzA X.K G xs ds ∧ match g ds ρ with
  | some ρ' => ∀ (σ' : L2.St) (H' G' : Hp), Rel X.K L B σ' ρ' G' H' → Ext B G G' → Only vs σ σ' → Q σ' H'
  | none => False
def SG (X : Cx) (e : Expr) (vs : List Nat) (g : D → Rho → Option Rho) : Prop := PG X e (tG X vs g)
def SGs (X : Cx) (es : List Expr) (vs : List Nat) (g : List D → Rho → Option Rho) : Prop := PGs X es (tGs X vs g)
theorem PGimp {X : Cx} {e : Expr} {t t' : TG} (h : PG X e t) (w : ∀ v σ H Q, t' v σ H Q → t v σ H Q) : PG X e t' := ⟨fun pins s σ H v u Q I r q => h.run pins s σ H v u Q I r (w _ _ _ _ q)⟩
theorem PGsimp {X : Cx} {e : List Expr} {t t' : TGs} (h : PGs X e t) (w : ∀ v σ H Q, t' v σ H Q → t v σ H Q) : PGs X e t' := ⟨fun pins s σ H v u Q I r q => h.run pins s σ H v u Q I r (w _ _ _ _ q)⟩
def gNm (i : Nat) : D → Rho → Option Rho := fun d ρ => store i (.val d) ρ
theorem sg_name (i : Nat) {x : Str} (hN : X.N.Nodup) (hi : X.N[i]? = some x := by rfl) (hx : Loc X.env.scope x := by first | exact Or.inl rfl | exact Or.inr rfl) (hf : X.fn x = true ∨ X.env.scope.names.lookup x = some .local := by first | exact .inl rfl | exact .inr rfl | assumption) :
    SG X (.Name x pos) [i] (gNm i) := PGimp (pg_name hN hi hx hf) (by
  rintro v σ H Q ⟨L, ρ, G, B, d, rel, fz, h⟩
  by_cases hc : canSet ρ i = true
  · simp only [gNm, store, if_pos hc] at h
    exact h _ H G (rel.store hc (.inl rfl) fz (fun z => by cases z)) .refl ⟨by simp, fun j hj => by
      rw [List.getElem?_set_ne]
      intro z; subst z; exact hj (by simp)⟩
  · simp only [gNm, store, if_neg hc] at h)
def gsNil : List D → Rho → Option Rho := fun ds ρ => match ds with
  | [] => some ρ
  | _ => none
def gsCons (g : D → Rho → Option Rho) (r : List D → Rho → Option Rho) : List D → Rho → Option Rho := fun ds ρ => match ds with
  | d :: ds => match g d ρ with
    | some ρ1 => r ds ρ1
    | none => none
  | [] => none
def gTp (n : Nat) (g : List D → Rho → Option Rho) : D → Rho → Option Rho := fun d ρ => match d with
  | .tuple ds => if ds.length = n then g ds ρ else none
  | _ => none
variable {es : List Expr} {g : D → Rho → Option Rho} {gs : List D → Rho → Option Rho} {vs ws : List Nat}
theorem sgs_nil : SGs X [] [] gsNil := PGsimp pgs_nil (by
  rintro xs σ H Q ⟨L, ρ, G, B, ds, rel, fz, h⟩
  cases fz with
  | nil => exact ⟨rfl, h σ H G rel .refl ⟨rfl, fun _ _ => rfl⟩⟩
  | cons a b => exact h.elim)
theorem sgs_cons (h1 : SG X e vs g) (h2 : SGs X es ws gs) (hs : (assignEach (e :: es) X.env).map (·.2) = assign e X.env :: (assignEach es X.env).map (·.2) := by rfl) : SGs X (e :: es) (vs ++ ws) (gsCons g gs) := PGsimp (pgs_cons h1 h2 hs) (by
  rintro xs σ H Q ⟨L, ρ, G, B, ds, rel, fz, h⟩
  cases fz with
  | nil => exact h.elim
  | @cons v vr d dr a b =>
    refine ⟨v, vr, rfl, L, ρ, G, B, d, rel, a, ?_⟩
    unfold gsCons at h
    cases q : g d ρ with
    | none => simp only [q] at h
    | some ρ1 =>
      simp only [q] at h
      refine fun σ' H' G' r' x1 o1 => ⟨L, ρ1, G', B, dr, r', b.mono x1.same, ?_⟩
      cases q2 : gs dr ρ1 with
      | none => simp only [q2] at h
      | some ρ2 =>
        simp only [q2] at h
        exact fun σ2 H2 G2 r2 x2 o2 => h σ2 H2 G2 r2 (x1.trans x2) (o1.trans o2))
theorem sg_tup {n k : Nat} (hc : X.calm = true) (h : SGs X es vs gs) (hn : (assignEach es X.env).length = n := by rfl) (hst : (assignEach es X.env).findIdx? (·.1) = none := by rfl) : SG X (.Tuple es k pos) vs (gTp n gs) := PGimp (pg_tup hc h hn hst) (by
  rintro v σ H Q ⟨L, ρ, G, B, d, rel, fz, h⟩
  cases d with
  | tuple ds =>
    unfold gTp at h
    obtain ⟨a, xs, rfl, h1, h2, h3⟩ := Vw.tup rel.sub (.of fz : Vw X.K G H v _)
    by_cases hl : ds.length = n
    · simp only [if_pos hl] at h
      exact ⟨a, xs, rfl, h2, by rw [h3.length]; exact hl, L, ρ, G, B, ds, rel, h3, h⟩
    · simp only [if_neg hl] at h
  | _ => exact h.elim)
/-- a, b = e -/
def cUnp (g : D → Rho → Option Rho) (c : CE) : CS := fun ρ => (c ρ).toS fun p ρ1 => match frz p ρ1 with
  | some (d, ρ2) => match g d ρ2 with
    | some ρ3 => .nx ρ3
    | none => .bad
  | none => .bad
theorem ss_unp {tg : Expr} (he : SX X e c) (hg : SG X tg vs g) (hs : swapsWithSole [tg] e pos.line X.env = pure false := by rfl) (hw : swappedStores [tg] e X.env = pure none := by rfl)
    (h1 : (assignEach [tg] X.env).map (·.2) = [assign tg X.env] := by rfl) : SS X (.Assign [tg] e pos) (cUnp g c) := fun W tk _ => PSimp (ps_asg (he W tk) hg hs hw h1) (by
  rintro D σ H ⟨L, ρ, G, B, rel, h⟩
  refine ⟨L, ρ, G, B, rel, (GotS.expr h).mono ?_⟩
  rintro v H1 ⟨p, ρ1, G1, _, rel1, _, ok, h1⟩
  cases q : frz p ρ1 with
  | none => simp only [q] at h1; exact h1.elim
  | some w =>
    obtain ⟨d, ρ2⟩ := w
    simp only [q] at h1
    obtain ⟨G2, r2, x2, fx2⟩ := ok.fix rel1
    obtain ⟨G3, r3, x3, f3⟩ := fx2.frz r2 q
    refine ⟨L, ρ2, G3, B, d, r3, f3, ?_⟩
    cases q2 : g d ρ2 with
    | none => simp only [q2] at h1; exact h1.elim
    | some ρ3 =>
      simp only [q2] at h1
      exact fun σ' H' G' r' x4 _ => h1 σ' H' G' r' ((x2.trans x3).trans x4))

/-! ### what is walked -/
def ItOk (K : PySem.W.Frag) (G : Hp) (ds : List D) (J : It) : Prop := ∀ (G2 H2 : Hp), Same G G2 → Same G2 H2 → ∀ i : Nat, (∀ d, ds[i]? = some d → J.go i H2 ∧ ∀ x H3, J.yld i H2 x H3 → Post K G2 H2 x H3 (.val d)) ∧ (ds.length ≤ i → J.stop i H2)
abbrev GotI (X : Cx) (L : L2.St) (W : WX) (σ : L2.St) (G B : Hp) (r : R (List D)) (Q : It → Hp → Prop) : Prop := Got X L W σ G B (fun ds _ G' _ J => ItOk X.K G' ds J) r Q
def tI (X : Cx) (W : WX) (c : CI) : TI := fun σ H Q => ∃ (L : L2.St) (ρ : Rho) (G B : Hp), Rel X.K L B σ ρ G H ∧ GotI X L W σ G B (c ρ) Q
def SI (X : Cx) (tg e : Expr) (c : CI) : Prop := ∀ W : WX, Takes X W → PI X tg e (tI X W c)
theorem PIimp {X : Cx} {tg e : Expr} {t t' : TI} (h : PI X tg e t) (w : ∀ σ H Q, t' σ H Q → t σ H Q) : PI X tg e t' := ⟨fun pins s σ H Q I q => h.run pins s σ H Q I (w _ _ _ q)⟩
variable {tg : Expr} {ci : CI}
/-- for: each thing stored, the body -/
def cFor (ci : CI) (g : D → Rho → Option Rho) (b : CS) : CS := fun ρ => match ci ρ with
  | .ok ds ρ1 => forL g b ds ρ1
  | .exc x ρ1 => .exc x ρ1
  | .bad => .bad
theorem ss_for {it : Expr} {body : List Stmt} (hc : X.calm = true) (hi : SI X tg it ci) (hg : SG X tg vs g) (hb : SSs X body b) (hs : ∀ x, foldedSetIterable it X.env x = pure x := by intro _; rfl) : SS X (.For tg it body [] pos) (cFor ci g b) := fun W tk ps =>
  PSimp (ps_for ps hc (hi W tk) hg (hb W tk ps) hs) (by
  rintro D σ H ⟨L, ρ, G, B, rel, h⟩
  unfold cFor at h
  refine ⟨L, ρ, G, B, rel, ?_⟩
  cases q : ci ρ with
  | bad => rw [q] at h; exact h.elim
  | exc x ρ1 => rw [q] at h; exact fun c d H' G' r' x' ok => h c d σ H' G' r' x' ok
  | ok ds ρ1 =>
    simp only [q] at h
    intro J H1 G1 rel1 ext1 hit
    refine ⟨fun i m σ H => m = ds.length - i ∧ i ≤ ds.length ∧ ∃ (ρ : Rho) (G : Hp), Rel X.K L B σ ρ G H ∧ Ext B G1 G ∧ GotS X L W G B (forL g b (ds.drop i) ρ) D, ⟨ds.length, by simp, Nat.zero_le _, ρ1, G1, rel1, .refl, by simpa using GotS.shift ext1 h⟩, ?_⟩
    rintro i m σ H ⟨rfl, hle, ρ, G, rel, ext, h⟩
    obtain ⟨h1, h2⟩ := hit G H ext.same rel.sub i
    by_cases hlt : i < ds.length
    · right
      have ei : ds[i]? = some ds[i] := by simp [hlt]
      obtain ⟨hgo, hy⟩ := h1 _ ei
      rw [List.drop_eq_getElem_cons hlt] at h
      refine ⟨hgo, fun σ' H' => i + 1 ≤ ds.length ∧ ∃ (ρ : Rho) (G : Hp), Rel X.K L B σ' ρ G H' ∧ Ext B G1 G ∧ GotS X L W G B (forL g b (ds.drop (i + 1)) ρ) D, fun σ' H' q => ⟨ds.length - (i + 1), by omega, rfl, q⟩, fun x H' hx => ?_⟩
      obtain ⟨G2, r2, x2, f2⟩ := (hy x H' hx).ok rel
      refine ⟨L, ρ, G2, B, ds[i], r2, f2, ?_⟩
      unfold forL at h
      cases q1 : g ds[i] ρ with
      | none => simp only [q1] at h; exact h.elim
      | some ρ2 =>
        simp only [q1] at h
        intro σ' H5 G5 r' x5 _
        refine ⟨L, ρ2, G5, B, r', ?_⟩
        cases q2 : b ρ2 with
        | nx ρ3 => simp only [q2] at h; exact fun σ3 H3 G3 r3 x3 => ⟨hlt, ρ3, G3, r3, ((ext.trans x2).trans x5).trans x3, GotS.shift ((x2.trans x5).trans x3) h⟩
        | ret d fr ρ3 => simp only [q2] at h; exact GotS.shift (x2.trans x5) h
        | exc x ρ3 => simp only [q2] at h; exact GotS.shift (x2.trans x5) h
        | bad => simp only [q2] at h; exact h.elim
    · left
      have e : i = ds.length := by omega
      subst e
      refine ⟨h2 (Nat.le_refl _), ?_⟩
      rw [List.drop_length] at h
      exact h σ H G rel .refl)
end
end TN
namespace TN
open PySem PySem.Spec PyProof.Rows L2

/-! ### defs -/
structure ArgsOk (K : PySem.W.Frag) (G H B : Hp) (vs : List V) (as : List (D × Md)) : Prop where
  len : vs.length = as.length
  arg : ∀ (i : Nat) (p : D × Md), as[i]? = some p → ∃ v, vs[i]? = some v ∧ SlotOk K G H B v p ∧ (p.2 = .fz ∨ p.2 = .lent)
  sep : ∀ (i j : Nat) (p q : D × Md) (v : V), i ≠ j → as[i]? = some p → as[j]? = some q → p.2 = .lent → q.2 = .lent → vs[i]? = some v → vs[j]? ≠ some v
/-- behind a call -/
structure After (K : PySem.W.Frag) (B G : Hp) (vs : List V) (as : List (D × Md)) (outs : List Slot) (G' H' : Hp) : Prop where
  sub : Same G' H'
  base : Same B H'
  ext : Ext B G G'
  out : ∀ (i : Nat) (d : D) (v : V), as[i]? = some (d, .lent) → vs[i]? = some v → ∃ (d' : D) (m : Md), outs[i]? = some (some (d', m)) ∧ (m = .lent ∨ m = .lz) ∧ SlotOk K G' H' B v (d', m)
def FRes (K : PySem.W.Frag) (mg : Str → Option Value) (B G : Hp) (vs : List V) (as : List (D × Md)) (Q : VK) (E : XK) (r : FR) : Prop := match r with
  | .ok d fr outs => ∀ (v : V) (H' G' : Hp), After K B G vs as outs G' H' → (fr = false → Fz K G' v d) →
      (fr = true → ∃ a, v = .ref a ∧ G' a = none ∧ B a = none ∧ Cont K G' H' a d ∧ ∀ (i : Nat) (d1 : D) (w : V) (d2 : D), as[i]? = some (d1, .lent) → vs[i]? = some w → outs[i]? = some (some (d2, .lent)) → w ≠ v) → Q v H'
  | .exc x outs => ∀ (cls : Value) (d : Option Addr) (H' G' : Hp), After K B G vs as outs G' H' →
      (∃ C : Addr, mg x.cls = some (.ref C) ∧ cls = .ref C ∧ ((x.flds = [] ∧ d = none) ∨ ∃ (dd : Addr) (fs : List (Str × V)), d = some dd ∧ H' dd = some (.xd fs) ∧ B dd = none ∧ FzN K G' fs x.flds)) → E cls d H'
  | .bad => False
/-- the promise of a def with the meaning M -/
def spF (K : PySem.W.Frag) (mg : Str → Option Value) (n : Nat) (M : FM) : Sp := fun vs H Q E => ∃ (G B : Hp) (as : List (D × Md)), vs.length = n ∧ Same G H ∧ Same B H ∧ ArgsOk K G H B vs as ∧ FRes K mg B G vs as Q E (M as)
/-- the meaning by the body's -/
def mkF (n m : Nat) (c : CS) : FM := fun as => if as.length = n then (match c (as.map some ++ List.replicate (m - n) none) with
  | .nx ρ => .ok .none false (ρ.take n)
  | .ret d fr ρ => .ok d fr (ρ.take n)
  | .exc x ρ => .exc x (ρ.take n)
  | .bad => .bad) else .bad
theorem start_get {N : List Str} {vs : List V} {i : Nat} {v : V} (h : vs[i]? = some v) : (L2.start N vs)[i]? = some (some v) := by
  unfold L2.start
  have hi : i < vs.length := (List.getElem?_eq_some_iff.mp h).1
  rw [List.getElem?_append_left (by simpa using hi), List.getElem?_map, h]; rfl
section
variable {P : Program} {w : World} {K : PySem.W.Frag} {mg : Str → Option Value} {base : Heap} {x qual : Str} {params : Arguments} {body : List Stmt} {scope : Scope} {f : Addr} {fd : FuncData}
theorem body_imp {X : Cx} {N : List Str} {n : Nat} {c : CS} {vs : List V} {H : Hp} {Q : VK} {E : XK} (hK : X.K = K) (hmg : X.mg = mg) (hn : n ≤ N.length) (h : spF K mg n (mkF n N.length c) vs H Q E) :
    tS X (fun cls d _ H => E cls d H) c { nx := fun _ H' => Q .non H', rt := Q } (L2.start N vs) H := by
  obtain ⟨G, B, as, hl, sub, bs, ao, h⟩ := h
  subst hK hmg
  have hla : as.length = n := by rw [← ao.len]; exact hl
  unfold mkF at h
  rw [if_pos hla] at h
  have rget : ∀ {i : Nat} {p : D × Md}, (as.map some ++ List.replicate (N.length - n) none)[i]? = some (some p) → as[i]? = some p := by
    intro i p hp
    by_cases hi : i < as.length
    · rw [List.getElem?_append_left (by simpa using hi), List.getElem?_map] at hp
      cases q : as[i]? with
      | none => rw [q] at hp; cases hp
      | some a => rw [q] at hp; cases hp; rfl
    · rw [List.getElem?_append_right (by simpa using hi), List.getElem?_replicate] at hp
      split at hp <;> cases hp
  have rgetI : ∀ {i : Nat} {p : D × Md}, as[i]? = some p → (as.map some ++ List.replicate (N.length - n) none)[i]? = some (some p) := by
    intro i p hp
    have hi : i < as.length := (List.getElem?_eq_some_iff.mp hp).1
    rw [List.getElem?_append_left (by simpa using hi), List.getElem?_map, hp]; rfl
  generalize hL : ((List.range n).map fun i => match as[i]?, vs[i]? with
    | some (_, .lent), some v => some v
    | _, _ => none : List (Option V)) = L
  have Lget : ∀ {j : Nat} {v : V}, L[j]? = some (some v) → vs[j]? = some v ∧ ∃ d, as[j]? = some (d, .lent) := by
    intro j v hj
    rw [← hL, List.getElem?_map] at hj
    cases q : (List.range n)[j]? with
    | none => rw [q] at hj; cases hj
    | some k =>
      have : k = j := by
        have := List.getElem?_eq_some_iff.mp q
        obtain ⟨_, e⟩ := this
        simpa using e.symm
      subst this
      rw [q] at hj
      simp only [Option.map_some, Option.some.injEq] at hj
      split at hj
      · rename_i a b e1 e2 
        cases hj; exact ⟨e2, _, e1⟩
      · cases hj
  have LgetI : ∀ {j : Nat} {v : V} {d : D}, vs[j]? = some v → as[j]? = some (d, .lent) → L[j]? = some (some v) := by
    intro j v d h1 h2
    have hj : j < n := by rw [← hla]; exact (List.getElem?_eq_some_iff.mp h2).1
    rw [← hL, List.getElem?_map, List.getElem?_range hj]
    simp only [Option.map_some, h1, h2]
  have rel : Rel X.K L B (L2.start N vs) (as.map some ++ List.replicate (N.length - n) none) G H := by
    refine ⟨sub, bs, ?_, fun i p hp => ?_, fun i j p q v hij hp hq hf hf' hv => ?_, fun j v hj => ?_⟩
    · unfold L2.start
      rw [List.length_append, List.length_append, List.length_map, List.length_map, List.length_replicate, List.length_replicate, ao.len, hla]
    · obtain ⟨v, h1, h2, _⟩ := ao.arg i p (rget hp)
      exact ⟨v, start_get h1, h2⟩
    · obtain ⟨v1, h1, _, m1⟩ := ao.arg i p (rget hp)
      obtain ⟨v2, h2, _, m2⟩ := ao.arg j q (rget hq)
      have e1 : p.2 = .lent := by rcases m1 with e | e; (rw [e] at hf; cases hf); exact e
      have e2 : q.2 = .lent := by rcases m2 with e | e; (rw [e] at hf'; cases hf'); exact e
      rw [start_get h1] at hv; cases hv
      rw [start_get h2]
      intro z; cases z
      exact ao.sep i j p q _ hij (rget hp) (rget hq) e1 e2 h1 h2
    · obtain ⟨h1, d, h2⟩ := Lget hj
      exact ⟨start_get h1, d, .lent, rgetI h2, .inl rfl⟩
  have aft : ∀ {σ' : L2.St} {ρ' : Rho} {G' H' : Hp}, Rel X.K L B σ' ρ' G' H' → Ext B G G' → After X.K B G vs as (ρ'.take n) G' H' := by
    intro σ' ρ' G' H' r e
    refine ⟨r.sub, r.base, e, fun i d v h1 h2 => ?_⟩
    obtain ⟨h3, d', m, h4, h5⟩ := r.lent i v (LgetI h2 h1)
    obtain ⟨v', h6, h7⟩ := r.slots i _ h4
    rw [h3] at h6; cases h6
    have hi : i < n := by rw [← hla]; exact (List.getElem?_eq_some_iff.mp h1).1
    exact ⟨d', m, by rw [List.getElem?_take_of_lt hi]; exact h4, h5, h7⟩
  refine ⟨L, _, G, B, rel, ?_⟩
  cases q : c (as.map some ++ List.replicate (N.length - n) none) with
  | nx ρ' =>
    rw [q] at h
    exact fun σ' H' G' r e => h .non H' G' (aft r e) (fun _ => .non) (fun z => by cases z)
  | ret d fr ρ' =>
    rw [q] at h
    intro v σ' H' G' r e ok
    refine h v H' G' (aft r e) (fun z => ?_) (fun z => ?_)
    · subst z; exact ok
    · subst z
      obtain ⟨a, rfl, h1, h2, c, hs⟩ := ok
      refine ⟨a, rfl, h1, h2, c, fun i d1 w d2 e1 e2 e3 z => ?_⟩
      subst z
      obtain ⟨h3, d', m, h4, h5⟩ := r.lent i _ (LgetI e2 e1)
      have hi : i < n := by rw [← hla]; exact (List.getElem?_eq_some_iff.mp e1).1
      rw [List.getElem?_take_of_lt hi] at e3
      exact hs i _ e3 rfl h3
  | exc y ρ' =>
    rw [q] at h
    exact fun cls d σ' H' G' r e ok => h cls d H' G' (aft r e) ok
  | bad => rw [q] at h; exact h
theorem fn_sound {k : Nat} {N ps : List Str} {c : CS} (F : FunD K x qual params body scope [] [] f fd) (S : FnScope N ps scope)
    (hb : ∀ (cdv : Value) (A : Around) (outer : List Env) (s : Shared) (H : Hp) (E : XK), Room k (A.deeper (envOfC qual scope s.heap.objs.size f cdv)) → SSs (cxOf (L2.CX P w) P w K mg base N qual scope f cdv A outer s H E) body c) :
    FnOk P w K mg base (L2.CX P w) (k + 1) f fd ps (spF K mg ps.length (mkF ps.length N.length c)) := by
  refine F.ok S (fun vs H Q E h => ?_) (fun cdv A outer s H vs Q E hr h => ?_)
  · obtain ⟨_, _, _, h, _⟩ := h; exact h
  · have hn : ps.length ≤ N.length := by
      have := congrArg List.length S.pre
      rw [List.length_take] at this; omega
    exact ⟨_, hb cdv A outer s H E hr _ (takes_of rfl rfl rfl rfl) (passes_of rfl), body_imp (X := cxOf (L2.CX P w) P w K mg base N qual scope f cdv A outer s H E) rfl rfl hn h⟩
end

/-! ### calls -/
def argOf (p : Pl) (ρ : Rho) : Option (D × Md) := match p with
  | .val d => some (d, .fz)
  | .tmp d => some (d, .fz)
  | .slot i => match ρ[i]? with
    | some (some (d, .own)) => some (d, .lent)
    | some (some (d, .lent)) => some (d, .lent)
    | some (some (d, .fz)) => some (d, .fz)
    | some (some (d, .lz)) => some (d, .fz)
    | _ => none
def argsOf : List Pl → Rho → Option (List (D × Md))
  | [], _ => some []
  | p :: ps, ρ => match argOf p ρ, argsOf ps ρ with
    | some a, some as => some (a :: as)
    | _, _ => none
def isSlot (i : Nat) : Pl → Bool
  | .slot j => i == j
  | _ => false
def noDup : List Pl → Bool
  | [] => true
  | .slot i :: ps => !(ps.any (isSlot i)) && noDup ps
  | _ :: ps => noDup ps
def outAt (j : Nat) : List Pl → List Slot → Option Slot
  | p :: ps, o :: os => if isSlot j p = true then some o else outAt j ps os
  | _, _ => none
def gbAt (ps : List Pl) (outs : List Slot) (j : Nat) (s : Slot) : Slot := match s with
  | some (d, .own) => match outAt j ps outs with
    | some (some (d', .lent)) => some (d', .own)
    | some (some (d', .lz)) => some (d', .fz)
    | some _ => none
    | none => some (d, .own)
  | some (d, .lent) => match outAt j ps outs with
    | some (some (d', .lent)) => some (d', .lent)
    | some (some (d', .lz)) => some (d', .lz)
    | some _ => none
    | none => some (d, .lent)
  | s => s
def gb (ps : List Pl) (outs : List Slot) : Nat → Rho → Rho
  | _, [] => []
  | j, s :: r => gbAt ps outs j s :: gb ps outs (j + 1) r
theorem gb_get (ps : List Pl) (outs : List Slot) : ∀ (ρ : Rho) (j i : Nat), (gb ps outs j ρ)[i]? = (ρ[i]?).map (gbAt ps outs (j + i))
  | [], _, _ => by simp [gb]
  | s :: r, j, 0 => by simp [gb]
  | s :: r, j, i + 1 => by
    simp only [gb, List.getElem?_cons_succ]
    rw [gb_get ps outs r (j + 1) i, Nat.add_right_comm]; rfl
theorem gb_length (ps : List Pl) (outs : List Slot) : ∀ (ρ : Rho) (j : Nat), (gb ps outs j ρ).length = ρ.length
  | [], _ => rfl
  | s :: r, j => by simp [gb, gb_length ps outs r]
theorem isSlot_iff {j : Nat} {p : Pl} : isSlot j p = true ↔ p = .slot j := by
  cases p with
  | val d => exact ⟨fun h => Bool.noConfusion h, fun h => nomatch h⟩
  | tmp d => exact ⟨fun h => Bool.noConfusion h, fun h => nomatch h⟩
  | slot i => exact ⟨fun h => by rw [eq_of_beq (show (j == i) = true from h)], fun h => by cases h; exact beq_self_eq_true j⟩
theorem outAt_some {j : Nat} : ∀ {ps : List Pl} {outs : List Slot} {o : Slot}, outAt j ps outs = some o → ∃ i : Nat, ps[i]? = some (Pl.slot j) ∧ outs[i]? = some o
  | p :: ps, o' :: os, o, h => by
    unfold outAt at h
    by_cases hs : isSlot j p = true
    · rw [if_pos hs] at h; cases h
      exact ⟨0, by rw [isSlot_iff.mp hs]; rfl, rfl⟩
    · rw [if_neg hs] at h
      obtain ⟨i, h1, h2⟩ := outAt_some h
      exact ⟨i + 1, by simpa using h1, by simpa using h2⟩
  | [], _, _, h => by simp [outAt] at h
  | _ :: _, [], _, h => by simp [outAt] at h
theorem outAt_none {j : Nat} : ∀ {ps : List Pl} {outs : List Slot} {i : Nat} {o : Slot}, outAt j ps outs = none → ps[i]? = some (.slot j) → outs[i]? = some o → False
  | p :: ps, o' :: os, 0, o, h, h1, h2 => by
    simp at h1; subst h1
    unfold outAt at h
    rw [if_pos (isSlot_iff.mpr rfl)] at h; cases h
  | p :: ps, o' :: os, i + 1, o, h, h1, h2 => by
    unfold outAt at h
    by_cases hs : isSlot j p = true
    · rw [if_pos hs] at h; cases h
    · rw [if_neg hs] at h
      exact outAt_none h (by simpa using h1) (by simpa using h2)
  | [], _, _, _, _, h1, _ => by simp at h1
  | _ :: _, [], _, _, _, _, h2 => by simp at h2
theorem noDup_ne : ∀ {ps : List Pl} {i k j : Nat}, noDup ps = true → i ≠ k → ps[i]? = some (.slot j) → ps[k]? = some (.slot j) → False
  | [], _, _, _, _, _, h, _ => by simp at h
  | p :: ps, 0, 0, _, _, hik, _, _ => hik rfl
  | p :: ps, 0, k + 1, j, hd, _, h1, h2 => by
    simp at h1; subst h1
    simp only [noDup, Bool.and_eq_true, Bool.not_eq_true'] at hd
    have h2 : ps[k]? = some (.slot j) := by simpa using h2
    have := List.any_eq_false.mp hd.1 _ (List.mem_of_getElem? h2)
    exact this (isSlot_iff.mpr rfl)
  | p :: ps, i + 1, 0, j, hd, _, h1, h2 => by
    simp at h2; subst h2
    simp only [noDup, Bool.and_eq_true, Bool.not_eq_true'] at hd
    have h1 : ps[i]? = some (.slot j) := by simpa using h1
    have := List.any_eq_false.mp hd.1 _ (List.mem_of_getElem? h1)
    exact this (isSlot_iff.mpr rfl)
  | p :: ps, i + 1, k + 1, j, hd, hik, h1, h2 => by
    have hd' : noDup ps = true := by
      cases p with
      | val d => exact hd
      | tmp d => exact hd
      | slot n => simp only [noDup, Bool.and_eq_true] at hd; exact hd.2
    exact noDup_ne (i := i) (k := k) hd' (fun z => hik (congrArg Nat.succ z)) (by simpa using h1) (by simpa using h2)
theorem argsOf_get : ∀ {ps : List Pl} {ρ : Rho} {as : List (D × Md)} {i : Nat} {a : D × Md}, argsOf ps ρ = some as → as[i]? = some a → ∃ p, ps[i]? = some p ∧ argOf p ρ = some a
  | [], _, _, i, a, h, ha => by cases h; simp at ha
  | p :: ps, ρ, as, i, a, h, ha => by
    unfold argsOf at h
    cases e1 : argOf p ρ with
    | none => simp [e1] at h
    | some a1 =>
      cases e2 : argsOf ps ρ with
      | none => simp [e1, e2] at h
      | some as1 =>
        simp only [e1, e2, Option.some.injEq] at h
        subst h
        cases i with
        | zero => simp at ha; subst ha; exact ⟨p, rfl, e1⟩
        | succ i =>
          obtain ⟨q, h1, h2⟩ := argsOf_get e2 (by simpa using ha)
          exact ⟨q, by simpa using h1, h2⟩
theorem argsOf_len : ∀ {ps : List Pl} {ρ : Rho} {as : List (D × Md)}, argsOf ps ρ = some as → as.length = ps.length
  | [], _, _, h => by cases h; rfl
  | p :: ps, ρ, as, h => by
    unfold argsOf at h
    cases e1 : argOf p ρ with
    | none => simp [e1] at h
    | some a1 =>
      cases e2 : argsOf ps ρ with
      | none => simp [e1, e2] at h
      | some as1 =>
        simp only [e1, e2, Option.some.injEq] at h
        subst h
        simp [argsOf_len e2]
theorem argsOf_of {ps : List Pl} {ρ : Rho} {as : List (D × Md)} {i : Nat} {p : Pl} (h : argsOf ps ρ = some as) (hp : ps[i]? = some p) : ∃ a : D × Md, as[i]? = some a ∧ argOf p ρ = some a := by
  have hl := argsOf_len h
  have hi : i < as.length := by rw [hl]; exact (List.getElem?_eq_some_iff.mp hp).1
  have ea : as[i]? = some as[i] := by simp [hi]
  obtain ⟨q, h1, h2⟩ := argsOf_get h ea
  rw [hp] at h1; cases h1
  exact ⟨_, ea, h2⟩
theorem PlA.get {K : PySem.W.Frag} {σ : L2.St} {G : Hp} : ∀ {vs : List V} {ps : List Pl} {i : Nat} {p : Pl}, PlA K σ G vs ps → ps[i]? = some p → ∃ v, vs[i]? = some v ∧ PlFx K σ G v p
  | _, _, _, _, .nil, e => by simp at e
  | _, _, 0, _, .cons a _, e => by simp at e; subst e; exact ⟨_, rfl, a⟩
  | _, _, i + 1, p, .cons _ b, e => by
    obtain ⟨v, h1, h2⟩ := PlA.get (i := i) b (by simpa using e)
    exact ⟨v, by simpa using h1, h2⟩
def callM (M : FM) (ps : List Pl) (ρ : Rho) : R Pl := match argsOf ps ρ with
  | none => .bad
  | some as => if noDup ps = true then (match M as with
    | .ok d fr outs => .ok (plR d fr) (gb ps outs 0 ρ)
    | .exc x outs => .exc x (gb ps outs 0 ρ)
    | .bad => .bad) else .bad
def cCall (M : FM) (c : CA) : CE := fun ρ => (c ρ).bind fun ps ρ1 => callM M ps ρ1
section
variable {K : PySem.W.Frag} {L : L2.St} {B G H : Hp} {σ : L2.St} {ρ : Rho} {ps : List Pl} {vs : List V} {as : List (D × Md)}
def lentVs (as : List (D × Md)) (vs : List V) : List V := (as.zip vs).filterMap fun q => if q.1.2 = .lent then some q.2 else none
theorem mem_lentVs {v : V} (h : v ∈ lentVs as vs) : ∃ (i : Nat) (d : D), as[i]? = some (d, .lent) ∧ vs[i]? = some v := by
  obtain ⟨q, hq, e⟩ := List.mem_filterMap.mp h
  obtain ⟨i, hi⟩ := List.getElem?_of_mem hq
  rw [List.getElem?_zip_eq_some] at hi
  obtain ⟨⟨d, m⟩, v'⟩ := q
  split at e
  · rename_i hm
    cases e
    have hm : m = .lent := hm
    subst hm
    exact ⟨i, d, hi.1, hi.2⟩
  · cases e
theorem lentVs_mem {i : Nat} {d : D} {v : V} (h1 : as[i]? = some (d, .lent)) (h2 : vs[i]? = some v) : v ∈ lentVs as vs :=
  List.mem_filterMap.mpr ⟨((d, .lent), v), List.mem_of_getElem? (List.getElem?_zip_eq_some.mpr ⟨h1, h2⟩), by simp⟩
/-- what a callee must leave -/
def calB (H : Hp) (as : List (D × Md)) (vs : List V) : Hp := fun b => if V.ref b ∈ lentVs as vs then none else H b
theorem calB_same : Same (calB H as vs) H := fun b o e => by
  unfold calB at e
  split at e
  · cases e
  · exact e
/-- a lent argument is a name's own list -/
theorem lent_slot (fx : PlA K σ G vs ps) (ha : argsOf ps ρ = some as) {i : Nat} {d : D} {v : V} (h1 : as[i]? = some (d, .lent)) (h2 : vs[i]? = some v) :
    ∃ (j : Nat) (m : Md), ps[i]? = some (Pl.slot j) ∧ σ[j]? = some (some v) ∧ ρ[j]? = some (some (d, m)) ∧ (m = .own ∨ m = .lent) := by
  obtain ⟨p, h3, h4⟩ := argsOf_get ha h1
  obtain ⟨v', h5, h6⟩ := fx.get h3
  rw [h2] at h5; cases h5
  cases p with
  | val x => cases h4
  | tmp x => cases h4
  | slot j =>
    unfold argOf at h4
    cases q : ρ[j]? with
    | none => simp [q] at h4
    | some o =>
      cases o with
      | none => simp [q] at h4
      | some w =>
        obtain ⟨d', m⟩ := w
        cases m with
        | own => simp only [q, Option.some.injEq, Prod.mk.injEq] at h4; obtain ⟨rfl, _⟩ := h4; exact ⟨j, .own, h3, h6, q, .inl rfl⟩
        | lent => simp only [q, Option.some.injEq, Prod.mk.injEq] at h4; obtain ⟨rfl, _⟩ := h4; exact ⟨j, .lent, h3, h6, q, .inr rfl⟩
        | fz => simp [q] at h4
        | lz => simp [q] at h4
theorem calArgs (rel : Rel K L B σ ρ G H) (fx : PlA K σ G vs ps) (ha : argsOf ps ρ = some as) (nd : noDup ps = true) : ArgsOk K G H (calB H as vs) vs as := by
  refine ⟨by rw [fx.length, argsOf_len ha], fun i p hp => ?_, fun i j p q v hij hp hq e1 e2 h1 h2 => ?_⟩
  · obtain ⟨pl, h3, h4⟩ := argsOf_get ha hp
    obtain ⟨v, h5, h6⟩ := fx.get h3
    obtain ⟨d, m⟩ := p
    have key : m = .lent → SlotOk K G H (calB H as vs) v (d, m) := fun z => by
      subst z
      obtain ⟨j, m', _, h8, h9, h10⟩ := lent_slot fx ha hp h5
      obtain ⟨v', h11, h12⟩ := rel.slots j _ h9
      rw [h8] at h11; cases h11
      obtain ⟨a, rfl, g1, b1, c1⟩ := h12.own (by rcases h10 with rfl | rfl <;> rfl)
      exact ⟨a, rfl, g1, if_pos (lentVs_mem hp h5), c1⟩
    have fzk : m = .fz → SlotOk K G H (calB H as vs) v (d, m) := fun z => by
      subst z
      cases pl with
      | val x => cases h4; exact h6
      | tmp x => cases h4; exact h6
      | slot j =>
        unfold argOf at h4
        cases q : ρ[j]? with
        | none => simp [q] at h4
        | some o =>
          cases o with
          | none => simp [q] at h4
          | some w =>
            obtain ⟨d', m'⟩ := w
            obtain ⟨v', h11, h12⟩ := rel.slots j _ q
            have h6' : σ[j]? = some (some v) := h6
            rw [h6'] at h11; cases h11
            cases m' with
            | own => simp [q] at h4
            | lent => simp [q] at h4
            | fz => simp only [q, Option.some.injEq, Prod.mk.injEq] at h4; obtain ⟨rfl, _⟩ := h4; exact h12
            | lz => simp only [q, Option.some.injEq, Prod.mk.injEq] at h4; obtain ⟨rfl, _⟩ := h4; exact h12
    have hm : m = .fz ∨ m = .lent := by
      cases pl with
      | val x => cases h4; exact .inl rfl
      | tmp x => cases h4; exact .inl rfl
      | slot j =>
        unfold argOf at h4
        cases q : ρ[j]? with
        | none => simp [q] at h4
        | some o =>
          cases o with
          | none => simp [q] at h4
          | some w =>
            obtain ⟨d', m'⟩ := w
            cases m' with
            | own => simp only [q, Option.some.injEq, Prod.mk.injEq] at h4; exact .inr h4.2.symm
            | lent => simp only [q, Option.some.injEq, Prod.mk.injEq] at h4; exact .inr h4.2.symm
            | fz => simp only [q, Option.some.injEq, Prod.mk.injEq] at h4; exact .inl h4.2.symm
            | lz => simp only [q, Option.some.injEq, Prod.mk.injEq] at h4; exact .inl h4.2.symm
    exact ⟨v, h5, hm.elim fzk key, hm⟩
  · obtain ⟨d1, m1⟩ := p
    obtain ⟨d2, m2⟩ := q
    have e1 : m1 = .lent := e1
    have e2 : m2 = .lent := e2
    subst e1 e2
    obtain ⟨j1, n1, a1, b1, c1, f1⟩ := lent_slot fx ha hp h1
    obtain ⟨j2, n2, a2, b2, c2, f2⟩ := lent_slot fx ha hq h2
    by_cases hj : j1 = j2
    · subst hj; exact noDup_ne nd hij a1 a2
    · exact rel.sep j1 j2 _ _ v hj c1 c2 (by rcases f1 with rfl | rfl <;> rfl) (by rcases f2 with rfl | rfl <;> rfl) b1 b2
theorem gbAt_cases {j : Nat} {outs : List Slot} {s : Slot} {p2 : D × Md} (h : gbAt ps outs j s = some p2) :
    (s = some p2 ∧ (p2.2.isFz = true ∨ outAt j ps outs = none)) ∨ (∃ d d' m m' , s = some (d, m) ∧ outAt j ps outs = some (some (d', m')) ∧ p2.1 = d' ∧ ((m' = .lent ∧ p2.2 = m ∧ (m = .own ∨ m = .lent)) ∨ (m' = .lz ∧ ((m = .own ∧ p2.2 = .fz) ∨ (m = .lent ∧ p2.2 = .lz))))) := by
  cases s with
  | none => cases h
  | some q =>
    obtain ⟨d, m⟩ := q
    cases m with
    | fz => cases h; exact .inl ⟨rfl, .inl rfl⟩
    | lz => cases h; exact .inl ⟨rfl, .inl rfl⟩
    | own =>
      unfold gbAt at h
      cases q : outAt j ps outs with
      | none => simp only [q] at h; cases h; exact .inl ⟨rfl, .inr rfl⟩
      | some o =>
        cases o with
        | none => simp only [q] at h; cases h
        | some w =>
          obtain ⟨d', m'⟩ := w
          cases m' with
          | lent => simp only [q] at h; cases h; exact .inr ⟨d, d', .own, .lent, rfl, rfl, rfl, .inl ⟨rfl, rfl, .inl rfl⟩⟩
          | lz => simp only [q] at h; cases h; exact .inr ⟨d, d', .own, .lz, rfl, rfl, rfl, .inr ⟨rfl, .inl ⟨rfl, rfl⟩⟩⟩
          | own => simp only [q] at h; cases h
          | fz => simp only [q] at h; cases h
    | lent =>
      unfold gbAt at h
      cases q : outAt j ps outs with
      | none => simp only [q] at h; cases h; exact .inl ⟨rfl, .inr rfl⟩
      | some o =>
        cases o with
        | none => simp only [q] at h; cases h
        | some w =>
          obtain ⟨d', m'⟩ := w
          cases m' with
          | lent => simp only [q] at h; cases h; exact .inr ⟨d, d', .lent, .lent, rfl, rfl, rfl, .inl ⟨rfl, rfl, .inr rfl⟩⟩
          | lz => simp only [q] at h; cases h; exact .inr ⟨d, d', .lent, .lz, rfl, rfl, rfl, .inr ⟨rfl, .inr ⟨rfl, rfl⟩⟩⟩
          | own => simp only [q] at h; cases h
          | fz => simp only [q] at h; cases h
theorem calRel (rel : Rel K L B σ ρ G H) (fx : PlA K σ G vs ps) (ha : argsOf ps ρ = some as) (nd : noDup ps = true) {outs : List Slot} {G' H' : Hp} (af : After K (calB H as vs) G vs as outs G' H') :
    Rel K L B σ (gb ps outs 0 ρ) G' H' ∧ Ext B G G' := by
  have gg : ∀ {j : Nat} {p : D × Md}, (gb ps outs 0 ρ)[j]? = some (some p) → ∃ s, ρ[j]? = some s ∧ gbAt ps outs j s = some p := by
    intro j p h
    rw [gb_get, Nat.zero_add] at h
    cases q : ρ[j]? with
    | none => rw [q] at h; cases h
    | some s => rw [q] at h; exact ⟨s, rfl, Option.some.inj h⟩
  -- a passed name's out
  have oo : ∀ {j : Nat} {d : D} {m : Md} {o : Slot}, ρ[j]? = some (some (d, m)) → (m = .own ∨ m = .lent) → outAt j ps outs = some o → ∃ (i : Nat) (v : V), as[i]? = some (d, Md.lent) ∧ vs[i]? = some v ∧ σ[j]? = some (some v) ∧ outs[i]? = some o := by
    intro j d m o h1 h2 h3
    obtain ⟨i, h4, h5⟩ := outAt_some h3
    obtain ⟨v, h6, h7⟩ := fx.get h4
    obtain ⟨a, h8, h9⟩ := argsOf_of ha h4
    have : a = (d, .lent) := by
      unfold argOf at h9
      rcases h2 with rfl | rfl <;> (simp only [h1, Option.some.injEq] at h9; exact h9.symm)
    subst this
    exact ⟨i, v, h8, h6, h7, h5⟩
  -- a name that wasn't passed keeps its list
  have np : ∀ {j : Nat} {d : D} {m : Md} {a : Addr}, ρ[j]? = some (some (d, m)) → m.isFz = false → outAt j ps outs = none → σ[j]? = some (some (.ref a)) → V.ref a ∉ lentVs as vs := by
    intro j d m a h1 h2 h3 h4 h5
    obtain ⟨i, d1, h6, h7⟩ := mem_lentVs h5
    obtain ⟨j', m', h8, h9, h10, h11⟩ := lent_slot fx ha h6 h7
    by_cases hj : j' = j
    · subst hj
      obtain ⟨d', m2, h12, _, _⟩ := af.out i d1 _ h6 h7
      exact outAt_none h3 h8 h12
    · exact rel.sep j' j _ _ _ hj h10 h1 (by rcases h11 with rfl | rfl <;> rfl) h2 h9 h4
  have ext : Ext B G G' := ⟨af.ext.same, fun b h => by
    rcases af.ext.new b h with z | z | z
    · exact .inl z
    · unfold calB at z
      split at z
      · rename_i hm
        obtain ⟨i, d1, h6, h7⟩ := mem_lentVs hm
        obtain ⟨j', m', h8, h9, h10, h11⟩ := lent_slot fx ha h6 h7
        obtain ⟨v', h12, h13⟩ := rel.slots j' _ h10
        rw [h9] at h12; cases h12
        obtain ⟨a, e, _, hb, _⟩ := h13.own (by rcases h11 with rfl | rfl <;> rfl)
        cases e
        exact .inr (.inl hb)
      · exact .inr (.inl (rel.base.free z))
    · exact .inr (.inr z)⟩
  have keepA : ∀ {a : Addr} {o : HO}, H a = some o → V.ref a ∉ lentVs as vs → H' a = some o := fun {a o} h1 h2 => af.base a o (by unfold calB; rw [if_neg h2]; exact h1)
  have base' : Same B H' := fun b o e => by
    refine keepA (rel.base b o e) fun hm => ?_
    obtain ⟨i, d1, h6, h7⟩ := mem_lentVs hm
    obtain ⟨j', m', h8, h9, h10, h11⟩ := lent_slot fx ha h6 h7
    obtain ⟨v', h12, h13⟩ := rel.slots j' _ h10
    rw [h9] at h12; cases h12
    obtain ⟨a, e', _, hb, _⟩ := h13.own (by rcases h11 with rfl | rfl <;> rfl)
    cases e'
    rw [hb] at e; cases e
  refine ⟨⟨af.sub, base', by rw [gb_length]; exact rel.len, fun j p hp => ?_, fun j k p q v hjk hp hq hf hf' hv => ?_, fun j v hj => ?_⟩, ext⟩
  · obtain ⟨s, h1, h2⟩ := gg hp
    rcases gbAt_cases h2 with ⟨rfl, h3⟩ | ⟨d, d', m, m', rfl, h3, h4, h5⟩
    · obtain ⟨v, h4, h5⟩ := rel.slots j _ h1
      refine ⟨v, h4, ?_⟩
      cases hfz : p.2.isFz with
      | true =>
        have := (h5.fz hfz).mono af.ext.same
        obtain ⟨d, m⟩ := p
        cases m with
        | fz => exact this
        | lz => exact this
        | own => cases hfz
        | lent => cases hfz
      | false =>
        have h3' : outAt j ps outs = none := by
          rcases h3 with z | z
          · rw [hfz] at z; cases z
          · exact z
        obtain ⟨a, rfl, g1, b1, c1⟩ := h5.own hfz
        obtain ⟨d, m⟩ := p
        have hn := np h1 hfz h3' h4
        have c2 : Cont K G' H' a d := (c1.heap fun o e => keepA e hn).mono af.ext.same
        have g2 : G' a = none := by
          cases q : G' a with
          | none => rfl
          | some o =>
            rcases af.ext.new a (by rw [q]; simp) with z | z | ⟨us, z⟩
            · exact absurd g1 z
            · unfold calB at z
              rw [if_neg hn] at z
              obtain ⟨o', ho⟩ := c1.there
              rw [ho] at z; cases z
            · exact (c2.notTup (af.sub _ _ z)).elim
        cases m with
        | fz => cases hfz
        | lz => cases hfz
        | own => exact ⟨a, rfl, g2, b1, c2⟩
        | lent => exact ⟨a, rfl, g2, b1, c2⟩
    · have hm : m = .own ∨ m = .lent := by
        rcases h5 with ⟨_, _, z⟩ | ⟨_, ⟨z, _⟩ | ⟨z, _⟩⟩
        · exact z
        · exact .inl z
        · exact .inr z
      obtain ⟨i, v, h6, h7, h8, h9⟩ := oo h1 hm h3
      obtain ⟨d2, m2, h10, h11, h12⟩ := af.out i d v h6 h7
      rw [h9] at h10; cases h10
      refine ⟨v, h8, ?_⟩
      obtain ⟨v', h13, h14⟩ := rel.slots j _ h1
      rw [h8] at h13; cases h13
      obtain ⟨a, rfl, g1, b1, c1⟩ := h14.own (by rcases hm with rfl | rfl <;> rfl)
      obtain ⟨pd, pm⟩ := p
      have h4 : pd = d' := h4
      subst h4
      rcases h5 with ⟨rfl, e, _⟩ | ⟨rfl, ⟨_, e⟩ | ⟨_, e⟩⟩
      · have e : pm = m := e
        subst e
        obtain ⟨a2, e2, g2, _, c2⟩ := h12
        cases e2
        rcases hm with rfl | rfl
        · exact ⟨a, rfl, g2, b1, c2⟩
        · exact ⟨a, rfl, g2, b1, c2⟩
      · have e : pm = .fz := e
        subst e; exact h12
      · have e : pm = .lz := e
        subst e; exact h12
  · obtain ⟨s, h1, h2⟩ := gg hp
    obtain ⟨s', h1', h2'⟩ := gg hq
    have un : ∀ {j : Nat} {s : Slot} {p : D × Md}, gbAt ps outs j s = some p → p.2.isFz = false → ∃ q, s = some q ∧ q.2.isFz = false := by
      intro j s p h hf
      rcases gbAt_cases h with ⟨rfl, _⟩ | ⟨d, d', m, m', rfl, _, _, h5⟩
      · exact ⟨p, rfl, hf⟩
      · refine ⟨(d, m), rfl, ?_⟩
        rcases h5 with ⟨_, _, rfl | rfl⟩ | ⟨_, ⟨rfl, _⟩ | ⟨rfl, _⟩⟩ <;> rfl
    obtain ⟨q1, rfl, f1⟩ := un h2 hf
    obtain ⟨q2, rfl, f2⟩ := un h2' hf'
    exact rel.sep j k q1 q2 v hjk h1 h1' f1 f2 hv
  · obtain ⟨h1, d, m, h2, h3⟩ := rel.lent j v hj
    refine ⟨h1, ?_⟩
    rw [gb_get, Nat.zero_add, h2]
    rcases h3 with rfl | rfl
    · cases q : outAt j ps outs with
      | none => exact ⟨d, .lent, by simp only [Option.map_some, gbAt, q], .inl rfl⟩
      | some o =>
        obtain ⟨i, v', h6, h7, h8, h9⟩ := oo h2 (.inr rfl) q
        obtain ⟨d2, m2, h10, h11, h12⟩ := af.out i d v' h6 h7
        rw [h9] at h10; cases h10
        rcases h11 with rfl | rfl
        · exact ⟨d2, .lent, by simp only [Option.map_some, gbAt, q], .inl rfl⟩
        · exact ⟨d2, .lz, by simp only [Option.map_some, gbAt, q], .inr rfl⟩
    · exact ⟨d, .lz, rfl, .inr rfl⟩
end
section
variable {X : Cx} {k n : Nat} {f : Addr} {fd : FuncData} {pn : List Str} {M : FM} {x : Str} {p pos : Pos} {e : Expr} {es : List Expr} {cr : CA}
theorem call_imp {W : WX} {L : L2.St} {σ : L2.St} {G B H1 : Hp} {Q : VK} {ρ1 : Rho} {ps : List Pl} {vs : List V} (rel1 : Rel X.K L B σ ρ1 G H1) (fx : PlA X.K σ G vs ps) (h : GotP X L W σ G B (callM M ps ρ1) Q) (hn : ps.length = n) :
    spF X.K X.mg n M vs H1 Q (WE W σ) := by
  unfold callM at h
  cases e1 : argsOf ps ρ1 with
  | none => simp only [e1] at h; exact h.elim
  | some as =>
    simp only [e1] at h
    by_cases nd : noDup ps = true
    · rw [if_pos nd] at h
      refine ⟨G, calB H1 as vs, as, by rw [fx.length]; exact hn, rel1.sub, calB_same, calArgs rel1 fx e1 nd, ?_⟩
      cases e2 : M as with
      | bad => simp only [e2] at h; exact h.elim
      | exc y outs =>
        simp only [e2] at h
        intro cls d H' G' af hx
        obtain ⟨r', e'⟩ := calRel rel1 fx e1 nd af
        refine h cls d H' G' r' e' ?_
        obtain ⟨C, h1, h2, h3⟩ := hx
        refine ⟨C, h1, h2, ?_⟩
        rcases h3 with z | ⟨dd, fs, h4, h5, h6, h7⟩
        · exact .inl z
        · refine .inr ⟨dd, fs, h4, h5, ?_, h7⟩
          unfold calB at h6
          split at h6
          · rename_i hm
            obtain ⟨i, d1, h8, h9⟩ := mem_lentVs hm
            obtain ⟨j', m', _, h10, h11, h12⟩ := lent_slot fx e1 h8 h9
            obtain ⟨v', h13, h14⟩ := rel1.slots j' _ h11
            rw [h10] at h13; cases h13
            obtain ⟨a, e', _, hb, _⟩ := h14.own (by rcases h12 with rfl | rfl <;> rfl)
            cases e'
            exact hb
          · exact rel1.base.free h6
      | ok d fr outs =>
        simp only [e2] at h
        intro v H' G' af hf ht
        obtain ⟨r', e'⟩ := calRel rel1 fx e1 nd af
        refine h v H' G' r' e' ?_
        cases fr with
        | false => exact hf rfl
        | true =>
          obtain ⟨a, rfl, g1, b1, c1, hs⟩ := ht rfl
          refine ⟨a, rfl, g1, ?_, c1, fun j q hq hfz hv => ?_⟩
          · unfold calB at b1
            split at b1
            · rename_i hm
              obtain ⟨i, d1, h8, h9⟩ := mem_lentVs hm
              obtain ⟨j', m', _, h10, h11, h12⟩ := lent_slot fx e1 h8 h9
              obtain ⟨v', h13, h14⟩ := rel1.slots j' _ h11
              rw [h10] at h13; cases h13
              obtain ⟨a, e', _, hb, _⟩ := h14.own (by rcases h12 with rfl | rfl <;> rfl)
              cases e'
              exact hb
            · exact rel1.base.free b1
          · have hq0 := hq
            rw [gb_get, Nat.zero_add] at hq
            cases q0 : ρ1[j]? with
            | none => rw [q0] at hq; cases hq
            | some s =>
              rw [q0] at hq
              have hq := Option.some.inj hq
              rcases gbAt_cases hq with ⟨rfl, h3⟩ | ⟨d0, d', m, m', rfl, h3, h4, h5⟩
              · obtain ⟨v', h13, h14⟩ := rel1.slots j _ q0
                rw [hv] at h13; cases h13
                obtain ⟨a', e', _, hb, c0⟩ := h14.own hfz
                cases e'
                have h3 : outAt j ps outs = none := by
                  rcases h3 with z | z
                  · rw [hfz] at z; cases z
                  · exact z
                -- not passed: it was there already
                obtain ⟨o, ho⟩ := c0.there
                have nl : V.ref a ∉ lentVs as vs := fun hm => by
                  obtain ⟨i, d1, h6, h7⟩ := mem_lentVs hm
                  obtain ⟨j', m', h8, h9, h10, h11⟩ := lent_slot fx e1 h6 h7
                  by_cases hj : j' = j
                  · subst hj
                    obtain ⟨d', m2, h12, _, _⟩ := af.out i d1 _ h6 h7
                    exact outAt_none h3 h8 h12
                  · exact rel1.sep j' j _ _ _ hj h10 q0 (by rcases h11 with rfl | rfl <;> rfl) hfz h9 hv
                unfold calB at b1
                rw [if_neg nl] at b1
                rw [ho] at b1; cases b1
              · obtain ⟨i, h6, h7⟩ := outAt_some h3
                obtain ⟨v', h8, h9⟩ := fx.get h6
                have h9 : σ[j]? = some (some v') := h9
                rw [hv] at h9; cases h9
                obtain ⟨a2, h10, h11⟩ := argsOf_of e1 h6
                have hm : m = .own ∨ m = .lent := by
                  rcases h5 with ⟨_, _, z⟩ | ⟨_, ⟨z, _⟩ | ⟨z, _⟩⟩
                  · exact z
                  · exact .inl z
                  · exact .inr z
                have : a2 = (d0, .lent) := by
                  unfold argOf at h11
                  rcases hm with rfl | rfl <;> (simp only [q0, Option.some.injEq] at h11; exact h11.symm)
                subst this
                have hm' : m' = .lent := by
                  rcases h5 with ⟨z, _, _⟩ | ⟨_, ⟨_, z⟩ | ⟨_, z⟩⟩
                  · exact z
                  · rw [z] at hfz; cases hfz
                  · rw [z] at hfz; cases hfz
                subst hm'
                exact hs i d0 _ d' h10 h8 h7 rfl
    · rw [if_neg nd] at h; exact h.elim
/-- what an argument list gives has its length -/
def LenA (c : CA) (n : Nat) : Prop := ∀ ρ ps ρ', c ρ = .ok ps ρ' → ps.length = n
theorem lenA_nil : LenA cNil 0 := fun ρ ps ρ' h => by cases h; rfl
theorem lenA_cons {a : CE} {r : CA} {n : Nat} (h : LenA r n) : LenA (cCons a r) (n + 1) := fun ρ ps ρ' e => by
  unfold cCons at e
  cases q : a ρ with
  | bad => rw [q] at e; cases e
  | exc x ρ1 => rw [q] at e; cases e
  | ok p ρ1 =>
    rw [q] at e
    simp only [R.bind] at e
    cases q2 : r ρ1 with
    | bad => rw [q2] at e; cases e
    | exc x ρ1 => rw [q2] at e; cases e
    | ok ps2 ρ2 =>
      rw [q2] at e
      simp only [R.ok.injEq] at e
      obtain ⟨rfl, rfl⟩ := e
      simp [h _ _ _ q2]
theorem sx_call (F : FnOk X.prog X.w X.K X.mg X.base (L2.CX X.prog X.w) k f fd pn (spF X.K X.mg n M)) (hr : Room k X.A) (hg : Gl X x) (hm : X.mg x = some (.ref f)) (hk : PySem.W.keepIn X.K (.ref f) = true) (hb : Binds X.K fd pn []) (hl : LenA cr n) (ha : SA X (e :: es) cr)
    (hdb : (x == ("__debug__" : Str)) = false := by decide) (he : starEach (e :: es) X.env = (false, eval e X.env) :: starEach es X.env := by rfl) (hpl : (backTo pos (starEach es X.env)).any (·.1) = false := by rfl) :
    SX X (.Call (.Name x p) (e :: es) [] pos) (cCall M cr) := fun W tk => PEimp (pe_callS F hr hg hm hk hb (fun σ => passAt tk σ) (ha W tk) hdb he hpl) (by
  rintro σ H Q ⟨L, ρ, G, B, rel, h⟩
  refine ⟨L, ρ, G, B, rel, (Got.bindA h).mono ?_⟩
  rintro vs H1 ⟨ps, ρ1, G1, e1, rel1, _, fx, h1⟩
  exact call_imp rel1 fx h1 (hl _ _ _ e1))
end
/-- a def at any level -/
theorem FnOk.up {P : Program} {w : World} {K : PySem.W.Frag} {mg : Str → Option Value} {base : Heap} {CX : CXT} {k : Nat} {f : Addr} {fd : FuncData} {pn : List Str} {sp : Sp} (F : FnOk P w K mg base CX k f fd pn sp) {j : Nat} (h : k ≤ j) : FnOk P w K mg base CX j f fd pn sp := F.mono h

/-! ### a law's end -/
theorem sp_law {K : PySem.W.Frag} {mg : Str → Option Value} {M : FM} (hM : ∀ ns : List Int, ns.length ≤ 63 → ∃ outs, M [(.list (ns.map PyData.int), .fz)] = .ok (.bool true) false outs) (H : Hp) (a : Addr) (ns : List Int) (hl : ns.length ≤ 63) (hS : Rd H a (.lst (ns.map V.int))) :
    spF K mg 1 M [.ref a] H (fun v _ => v = .bl true) fun _ _ _ => False := by
  obtain ⟨outs, e⟩ := hM ns hl
  refine ⟨H, H, [(.list (ns.map PyData.int), .fz)], rfl, Same.refl _, Same.refl _, ⟨rfl, fun i p hp => ?_, fun i j p q v hij hp hq e1 e2 => ?_⟩, ?_⟩
  · cases i with
    | zero => simp at hp; subst hp; exact ⟨_, rfl, .lst hS (FzA.of_ints ns), .inl rfl⟩
    | succ i => simp at hp
  · cases i with
    | zero => simp at hp; subst hp; cases e1
    | succ i => simp at hp
  · rw [e]
    intro v H' G' af h1 _
    have := h1 rfl
    cases this; rfl
theorem no_exc {P : Program} {w : World} : ∀ (H : Hp) (s : Shared) (e : Value) (s' : Shared), L2.CX P w [] H s (fun _ _ _ => False) e s' → False := by
  intro H s e s' h
  obtain ⟨_, _, _, _, _, _, _, _, _, _, _, _, z⟩ := h
  exact z.elim
end TN
namespace TN
open PySem PySem.Spec PyProof.Rows L2

/-! ### list comprehensions -/
/-- the block's own names emptied -/
def wipeR (ρ : Rho) : List Nat → Rho
  | [] => ρ
  | v :: vs => (wipeR ρ vs).set v none
/-- .. and put back as they were in ρ0 -/
def backR (ρ0 ρ : Rho) : List Nat → Rho
  | [] => ρ
  | v :: vs => match ρ0[v]? with
    | some s => (backR ρ0 ρ vs).set v s
    | none => backR ρ0 ρ vs
/-- the block's own names are empty, or frozen values -/
def wipeOk (ρ : Rho) (vs : List Nat) : Bool := vs.all fun v => match ρ[v]? with
  | some none => true
  | some (some (_, .fz)) => true
  | _ => false
def compL (g : D → Rho → Option Rho) (t : CB) (e : CE) (vs : List Nat) : List D → List D → Rho → R (List D)
  | [], acc, ρ => .ok acc ρ
  | d :: ds, acc, ρ => match g d ρ with
    | none => .bad
    | some ρ1 => match t ρ1 with
      | .ok true ρ2 => (match e ρ2 with
        | .ok p ρ3 => (match frz p ρ3 with
          | some (x, ρ4) => if acc.length < 16777216 ∧ wipeOk ρ4 vs = true then compL g t e vs ds (acc ++ [x]) (wipeR ρ4 vs) else .bad
          | none => .bad)
        | _ => .bad)
      | .ok false ρ2 => if wipeOk ρ2 vs = true then compL g t e vs ds acc (wipeR ρ2 vs) else .bad
      | _ => .bad
def cComp (ci : CI) (g : D → Rho → Option Rho) (t : CB) (e : CE) (vs : List Nat) : CE := fun ρ => match ci ρ with
  | .ok ds ρ1 => if wipeOk ρ1 vs = true then (match compL g t e vs ds [] (wipeR ρ1 vs) with
      | .ok acc ρ2 => .ok (.tmp (.list acc)) (backR ρ1 ρ2 vs)
      | .exc x ρ2 => .bad
      | .bad => .bad) else .bad
  | .exc x ρ1 => .exc x ρ1
  | .bad => .bad
theorem wipeR_length (ρ : Rho) : ∀ vs : List Nat, (wipeR ρ vs).length = ρ.length
  | [] => rfl
  | v :: vs => by unfold wipeR; rw [List.length_set, wipeR_length ρ vs]
theorem wipeR_some {ρ : Rho} {i : Nat} {p : D × Md} : ∀ {vs : List Nat}, (wipeR ρ vs)[i]? = some (some p) → ρ[i]? = some (some p) ∧ i ∉ vs
  | [], h => ⟨h, by simp⟩
  | v :: vs, h => by
    unfold wipeR at h
    by_cases hi : v = i
    · subst hi
      by_cases hv : v < (wipeR ρ vs).length
      · rw [List.getElem?_set_self hv] at h; cases h
      · rw [List.getElem?_eq_none (by simpa using hv)] at h; cases h
    · rw [List.getElem?_set_ne hi] at h
      obtain ⟨h1, h2⟩ := wipeR_some h
      exact ⟨h1, by simp only [List.mem_cons, not_or]; exact ⟨fun e => hi e.symm, h2⟩⟩
theorem wipeR_out {ρ : Rho} {i : Nat} : ∀ {vs : List Nat}, i ∉ vs → (wipeR ρ vs)[i]? = ρ[i]?
  | [], _ => rfl
  | v :: vs, h => by
    simp only [List.mem_cons, not_or] at h
    unfold wipeR
    rw [List.getElem?_set_ne (Ne.symm h.1), wipeR_out h.2]
theorem wipe_out' {σ : L2.St} {i : Nat} : ∀ {vs : List Nat}, i ∉ vs → (wipe σ vs)[i]? = σ[i]?
  | [], _ => rfl
  | v :: vs, h => by
    simp only [List.mem_cons, not_or] at h
    unfold wipe
    rw [List.getElem?_set_ne (Ne.symm h.1), wipe_out' h.2]
theorem backR_length (ρ0 ρ : Rho) : ∀ vs : List Nat, (backR ρ0 ρ vs).length = ρ.length
  | [] => rfl
  | v :: vs => by
    unfold backR
    split
    · rw [List.length_set, backR_length ρ0 ρ vs]
    · exact backR_length ρ0 ρ vs
theorem backR_out {ρ0 ρ : Rho} {i : Nat} : ∀ {vs : List Nat}, i ∉ vs → (backR ρ0 ρ vs)[i]? = ρ[i]?
  | [], _ => rfl
  | v :: vs, h => by
    simp only [List.mem_cons, not_or] at h
    unfold backR
    split
    · rw [List.getElem?_set_ne (Ne.symm h.1), backR_out h.2]
    · exact backR_out h.2
theorem backR_in {ρ0 ρ : Rho} {i : Nat} (hl : ρ0.length = ρ.length) : ∀ {vs : List Nat}, i ∈ vs → (backR ρ0 ρ vs)[i]? = ρ0[i]?
  | [], h => by simp at h
  | v :: vs, h => by
    unfold backR
    by_cases hi : i = v
    · subst hi
      cases q : ρ0[i]? with
      | none =>
        simp only
        rw [List.getElem?_eq_none]
        rw [backR_length, ← hl]
        exact List.getElem?_eq_none_iff.mp q
      | some s =>
        simp only
        rw [List.getElem?_set_self]
        rw [backR_length, ← hl]
        exact (List.getElem?_eq_some_iff.mp q).1
    · have h' : i ∈ vs := by
        rcases List.mem_cons.mp h with z | z
        · exact absurd z hi
        · exact z
      split
      · rw [List.getElem?_set_ne (Ne.symm hi)]; exact backR_in hl h'
      · exact backR_in hl h'
section
variable {K : PySem.W.Frag} {L : L2.St} {B G G1 G2 H H1 : Hp} {σ : L2.St} {ρ ρ1 ρ2 : Rho} {vs : List Nat} {D0 : Addr} {v : V}
theorem wipeOk_at (h : wipeOk ρ vs = true) {i : Nat} (hi : i ∈ vs) : ρ[i]? = some none ∨ ∃ d, ρ[i]? = some (some (d, .fz)) := by
  have := List.all_eq_true.mp h i hi
  split at this
  · rename_i q; exact .inl q
  · rename_i d q; exact .inr ⟨d, q⟩
  · cases this
theorem Rel.wipe (r : Rel K L B σ ρ G H) (h : wipeOk ρ vs = true) : Rel K L B (wipe σ vs) (wipeR ρ vs) G H := by
  refine ⟨r.sub, r.base, by rw [wipeR_length, wipe_length]; exact r.len, fun i p hp => ?_, fun i j p q v hij hp hq hf hf' hv => ?_, fun j v hj => ?_⟩
  · obtain ⟨h1, h2⟩ := wipeR_some hp
    obtain ⟨v, h3, h4⟩ := r.slots i p h1
    exact ⟨v, by rw [wipe_out' h2]; exact h3, h4⟩
  · obtain ⟨h1, h2⟩ := wipeR_some hp
    obtain ⟨h3, h4⟩ := wipeR_some hq
    rw [wipe_out' h2] at hv
    rw [wipe_out' h4]
    exact r.sep i j p q v hij h1 h3 hf hf' hv
  · obtain ⟨h1, d, m, h2, h3⟩ := r.lent j v hj
    have hn : j ∉ vs := fun z => by
      rcases wipeOk_at h z with q | ⟨d', q⟩
      · rw [h2] at q; cases q
      · rw [h2] at q; cases q
        rcases h3 with z | z <;> cases z
    exact ⟨by rw [wipe_out' hn]; exact h1, d, m, by rw [wipeR_out hn]; exact h2, h3⟩
/-- behind the block -/
theorem Rel.back (r0 : Rel K L B σ ρ1 G1 H1) (h : wipeOk ρ1 vs = true) (r : Rel K L B (L2.wipe σ vs) ρ2 G H) (e : Ext B G1 G) : Rel K L B σ (backR ρ1 ρ2 vs) G H := by
  have hl : ρ1.length = ρ2.length := by
    have e1 := r0.len
    have e2 := r.len
    rw [wipe_length] at e2
    omega
  refine ⟨r.sub, r.base, by rw [backR_length, ← hl]; exact r0.len, fun i p hp => ?_, fun i j p q v hij hp hq hf hf' hv => ?_, fun j v hj => ?_⟩
  · by_cases hi : i ∈ vs
    · rw [backR_in hl hi] at hp
      obtain ⟨v, h3, h4⟩ := r0.slots i p hp
      refine ⟨v, h3, ?_⟩
      rcases wipeOk_at h hi with q | ⟨d', q⟩
      · rw [hp] at q; cases q
      · rw [hp] at q; cases q
        exact Fz.mono e.same h4
    · rw [backR_out hi] at hp
      obtain ⟨v, h3, h4⟩ := r.slots i p hp
      exact ⟨v, by rw [wipe_out' hi] at h3; exact h3, h4⟩
  · have no : ∀ {i : Nat} {p : D × Md}, (backR ρ1 ρ2 vs)[i]? = some (some p) → p.2.isFz = false → i ∉ vs := fun {i p} hp hf hi => by
      rw [backR_in hl hi] at hp
      rcases wipeOk_at h hi with q | ⟨d', q⟩
      · rw [hp] at q; cases q
      · rw [hp] at q; cases q
        cases hf
    have hi := no hp hf
    have hj := no hq hf'
    rw [backR_out hi] at hp
    rw [backR_out hj] at hq
    have := r.sep i j p q v hij hp hq hf hf' (by rw [wipe_out' hi]; exact hv)
    rwa [wipe_out' hj] at this
  · obtain ⟨h1, d, m, h2, h3⟩ := r0.lent j v hj
    have hn : j ∉ vs := fun z => by
      rcases wipeOk_at h z with q | ⟨d', q⟩
      · rw [h2] at q; cases q
      · rw [h2] at q; cases q
        rcases h3 with z | z <;> cases z
    obtain ⟨_, d', m', h5, h6⟩ := r.lent j v hj
    exact ⟨h1, d', m', by rw [backR_out hn]; exact h5, h6⟩
/-- the list being made is put among what stands -/
theorem Rel.addB (r : Rel K L B σ ρ G H) (hB : B D0 = none) {o : HO} (ho : H D0 = some o) (hn : ∀ (j : Nat) (p : D × Md), ρ[j]? = some (some p) → p.2.isFz = false → σ[j]? ≠ some (some (.ref D0))) : Rel K L (upd B D0 o) σ ρ G H := by
  refine ⟨r.sub, fun b u q => ?_, r.len, fun i p hp => ?_, r.sep, r.lent⟩
  · by_cases hb : b = D0
    · subst hb; rw [upd_same] at q; cases q; exact ho
    · rw [upd_ne hb] at q; exact r.base b u q
  · obtain ⟨v, h1, h2⟩ := r.slots i p hp
    refine ⟨v, h1, ?_⟩
    cases hf : p.2.isFz with
    | true =>
      have := h2.fz hf
      obtain ⟨d, m⟩ := p
      cases m with
      | fz => exact this
      | lz => exact this
      | own => cases hf
      | lent => cases hf
    | false =>
      obtain ⟨a, rfl, g1, b1, c1⟩ := h2.own hf
      have : a ≠ D0 := fun z => by subst z; exact hn i p hp hf h1
      have b2 : upd B D0 o a = none := by rw [upd_ne this]; exact b1
      obtain ⟨d, m⟩ := p
      cases m with
      | fz => cases hf
      | lz => cases hf
      | own => exact ⟨a, rfl, g1, b2, c1⟩
      | lent => exact ⟨a, rfl, g1, b2, c1⟩
theorem Rel.subB {o : HO} (r : Rel K L (upd B D0 o) σ ρ G H) (hB : B D0 = none) : Rel K L B σ ρ G H ∧ ∀ (j : Nat) (p : D × Md), ρ[j]? = some (some p) → p.2.isFz = false → σ[j]? ≠ some (some (.ref D0)) := by
  have no : ∀ {a : Addr}, upd B D0 o a = none → a ≠ D0 ∧ B a = none := fun {a} h => by
    have : a ≠ D0 := fun z => by subst z; rw [upd_same] at h; cases h
    rw [upd_ne this] at h
    exact ⟨this, h⟩
  refine ⟨⟨r.sub, fun b u q => r.base b u (by rw [upd_ne (ne_of_none q hB)]; exact q), r.len, fun i p hp => ?_, r.sep, r.lent⟩, fun j p hp hf hv => ?_⟩
  · obtain ⟨v, h1, h2⟩ := r.slots i p hp
    refine ⟨v, h1, ?_⟩
    obtain ⟨d, m⟩ := p
    cases m with
    | fz => exact h2
    | lz => exact h2
    | own => obtain ⟨a, e, g1, b1, c1⟩ := h2; exact ⟨a, e, g1, (no b1).2, c1⟩
    | lent => obtain ⟨a, e, g1, b1, c1⟩ := h2; exact ⟨a, e, g1, (no b1).2, c1⟩
  · obtain ⟨v, h1, h2⟩ := r.slots j p hp
    rw [hv] at h1; cases h1
    obtain ⟨a, e, g1, b1, c1⟩ := h2.own hf
    cases e
    exact (no b1).1 rfl
theorem Ext.subB {o : HO} (e : Ext (upd B D0 o) G G1) : Ext B G G1 := ⟨e.same, fun b h => by
  rcases e.new b h with z | z | z
  · exact .inl z
  · have : b ≠ D0 := fun w => by subst w; rw [upd_same] at z; cases z
    rw [upd_ne this] at z
    exact .inr (.inl z)
  · exact .inr (.inr z)⟩
/-- the list grows -/
theorem Rel.grow {o o' : HO} (r : Rel K L (upd B D0 o) σ ρ G H) (hB : B D0 = none) (hG : G D0 = none) : Rel K L B σ ρ G (upd H D0 o') := by
  obtain ⟨r1, hn⟩ := r.subB hB
  refine r1.gb .refl (fun b u q => by rw [upd_ne (ne_of_none q hG)]; exact r1.sub b u q) (fun b u q => by rw [upd_ne (ne_of_none q hB)]; exact r1.base b u q) fun i p a hp hf hv => ?_
  obtain ⟨v, h1, h2⟩ := r1.slots i p hp
  rw [hv] at h1; cases h1
  obtain ⟨a', e, g1, b1, c1⟩ := h2.own hf
  cases e
  have : a ≠ D0 := fun z => by subst z; exact hn i p hp hf hv
  exact ⟨g1, fun u q => by rw [upd_ne this]; exact q⟩
end
section
variable {X : Cx} {elt tg iter : Expr} {ifs : List Expr} {scope : Scope} {own : List (Str × Nat)} {pos : Pos} {ci : CI} {g : D → Rho → Option Rho} {t : CB} {e : CE}
/-- a clause's tests in a block -/
def SPt (X : Cx) (ifs : List Expr) (t : CB) : Prop := ∀ W : WX, Takes X W → PTs X ifs (tT X W t)
theorem spt_nil : SPt X [] (fun ρ => .ok true ρ) := fun W tk => ⟨fun pins s σ H Q I h => pts_nil.run pins s σ H Q I (by
  obtain ⟨L, ρ, G, B, rel, h⟩ := h
  exact h true H G rel .refl rfl)⟩
theorem spt_one {c : Expr} (h : ST X c t) : SPt X [c] t := fun W tk => pts_one (h W tk)
theorem wipe_get (σ : L2.St) {i : Nat} : ∀ {vs : List Nat}, i ∈ vs → (L2.wipe σ vs)[i]? = if i < σ.length then some none else none
  | [], h => by simp at h
  | w :: ws, h => by
    unfold L2.wipe
    by_cases e : w = i
    · subst e
      rw [List.getElem?_set]
      simp only [if_true, wipe_length]
    · rw [List.getElem?_set_ne e]
      rcases List.mem_cons.mp h with z | z
      · exact absurd z.symm e
      · exact wipe_get σ z
theorem wipe_only {σ σ' : L2.St} {vs ws : List Nat} (o : Only ws (L2.wipe σ vs) σ') (h : ∀ i ∈ ws, i ∈ vs) : L2.wipe σ' vs = L2.wipe σ vs := by
  apply List.ext_getElem?
  intro j
  by_cases hj : j ∈ vs
  · rw [wipe_get _ hj, wipe_get _ hj, o.1, wipe_length]
  · rw [wipe_out' hj, wipe_out' hj, o.2 j (fun z => hj (h j z)), wipe_out' hj]
abbrev Wf : WX := fun _ _ _ _ => False
theorem comp_imp {W : WX} {vs ws : List Nat} (hvs : ∀ i ∈ ws, i ∈ vs) :
    ∀ (σ : L2.St) (H : Hp) (Q : VK), tX X W (cComp ci g t e vs) σ H Q → tLc (tI X W ci) (tG X ws g) (tT X Wf t) (tX X Wf e) vs σ H Q := by
  rintro σ H Q ⟨L, ρ, G, B, rel, h⟩
  refine ⟨L, ρ, G, B, rel, ?_⟩
  unfold cComp at h
  cases q : ci ρ with
  | bad => simp only [q] at h; exact h.elim
  | exc x ρ1 => simp only [q] at h; exact h
  | ok ds ρ1 =>
    simp only [q] at h
    by_cases hw : wipeOk ρ1 vs = true
    case neg => rw [if_neg hw] at h; exact h.elim
    rw [if_pos hw] at h
    intro J H1 G1 rel1 ext1 hit D0 hD
    have hB : B D0 = none := rel1.base.free hD
    cases qc : compL g t e vs ds [] (wipeR ρ1 vs) with
    | bad => simp only [qc] at h; exact h.elim
    | exc x ρ2 => simp only [qc] at h; exact h.elim
    | ok accF ρF =>
    simp only [qc] at h
    -- the invariant: behind i things the list so far, and what the rest gives
    let W0 : Nat → Hp → Prop := fun i H => i ≤ ds.length ∧ ∃ (acc : List D) (xs : List V) (ρ : Rho) (G : Hp), Rel X.K L B (L2.wipe σ vs) ρ G H ∧ Ext B G1 G ∧ G D0 = none ∧ H D0 = some (.lst xs) ∧ FzA X.K G xs acc ∧
      (∀ (j : Nat) (p : D × Md), ρ[j]? = some (some p) → p.2.isFz = false → (L2.wipe σ vs)[j]? ≠ some (some (.ref D0))) ∧ compL g t e vs (ds.drop i) acc ρ = .ok accF ρF
    have noD : ∀ {σ : L2.St} {ρ : Rho} {G H : Hp}, Rel X.K L B σ ρ G H → H D0 = none → ∀ (j : Nat) (p : D × Md), ρ[j]? = some (some p) → p.2.isFz = false → σ[j]? ≠ some (some (.ref D0)) := by
      intro σ ρ G H r hD j p hp hf hv
      obtain ⟨w, h1, h2⟩ := r.slots j p hp
      rw [hv] at h1; cases h1
      obtain ⟨a, e', _, _, c⟩ := h2.own hf
      cases e'
      obtain ⟨o, ho⟩ := c.there
      rw [hD] at ho; cases ho
    have start0 : W0 0 (upd H1 D0 (.lst [])) :=
      ⟨Nat.zero_le _, [], [], wipeR ρ1 vs, G1, (rel1.wipe hw).new (Same.upd_new (o := .lst []) hD), .refl, rel1.sub.free hD, upd_same, .nil, noD (rel1.wipe hw) hD, by simpa using qc⟩
    refine ⟨fun i m H => m = ds.length - i ∧ W0 i H, ⟨_, rfl, start0⟩, ?_⟩
    rintro i m H2 ⟨rfl, hle, acc, xs, ρ2, G2, rel2, ext2, hG2, hx, fx, hn, hc⟩
    obtain ⟨ha, hb⟩ := hit G2 H2 ext2.same rel2.sub i
    by_cases hlt : i < ds.length
    · right
      have ei : ds[i]? = some ds[i] := by simp [hlt]
      obtain ⟨hgo', hy⟩ := ha _ ei
      refine ⟨hgo', fun H' => W0 (i + 1) H', fun H' w => ⟨ds.length - (i + 1), by omega, rfl, w⟩, fun x H3 hyl => ?_⟩
      have relB := rel2.addB hB hx hn
      obtain ⟨G3, r3, x3, f3⟩ := (hy x H3 hyl).ok relB
      rw [List.drop_eq_getElem_cons hlt] at hc
      unfold compL at hc
      refine ⟨L, ρ2, G3, upd B D0 (.lst xs), ds[i], r3, f3, ?_⟩
      cases q1 : g ds[i] ρ2 with
      | none => simp only [q1] at hc; cases hc
      | some ρ3 =>
        simp only [q1] at hc
        intro σ3 H3' G3' r3' x3' ho
        have x3 := x3.trans x3'
        have hwσ : L2.wipe σ3 vs = L2.wipe σ vs := wipe_only ho hvs
        refine ⟨hwσ, L, ρ3, G3', upd B D0 (.lst xs), r3', ?_⟩
        have wipeN : ∀ {ρ' : Rho} {G' H' : Hp}, Rel X.K L (upd B D0 (.lst xs)) σ3 ρ' G' H' → wipeOk ρ' vs = true → Rel X.K L (upd B D0 (.lst xs)) (L2.wipe σ vs) (wipeR ρ' vs) G' H' := by
          intro ρ' G' H' r hwo
          have := r.wipe hwo
          rwa [hwσ] at this
        have gD : ∀ {σ' : L2.St} {ρ' : Rho} {G' H' : Hp}, Rel X.K L (upd B D0 (.lst xs)) σ' ρ' G' H' → Ext (upd B D0 (.lst xs)) G2 G' → G' D0 = none := by
          intro σ' ρ' G' H' r ex
          cases z : G' D0 with
          | none => rfl
          | some o =>
            rcases ex.new D0 (by rw [z]; simp) with w | w | ⟨us, w⟩
            · exact absurd hG2 w
            · rw [upd_same] at w; cases w
            · have z1 := r.sub _ _ w
              have z2 := r.base D0 _ upd_same
              rw [z1] at z2; cases z2
        cases q2 : t ρ3 with
        | bad => simp only [q2] at hc; cases hc
        | exc y ρ4 => simp only [q2] at hc; cases hc
        | ok b ρ4 =>
          intro b' H4 G4 r4 x4 eb
          subst eb
          cases b' with
          | false =>
            simp only [q2] at hc
            rw [if_neg Bool.false_ne_true]
            by_cases hwo : wipeOk ρ4 vs = true
            · rw [if_pos hwo] at hc
              have rN := wipeN r4 hwo
              obtain ⟨rN', nN⟩ := rN.subB hB
              exact ⟨hlt, acc, xs, wipeR ρ4 vs, G4, rN', ext2.trans (x3.subB.trans x4.subB), gD r4 (x3.trans x4), rN.base D0 _ upd_same, fx.mono (x3.trans x4).same, nN, hc⟩
            · rw [if_neg hwo] at hc; cases hc
          | true =>
            simp only [q2] at hc
            rw [if_pos rfl]
            refine ⟨L, ρ4, G4, upd B D0 (.lst xs), r4, ?_⟩
            cases q3 : e ρ4 with
            | bad => simp only [q3] at hc; cases hc
            | exc y ρ5 => simp only [q3] at hc; cases hc
            | ok p ρ5 =>
              simp only [q3] at hc
              intro v H5 G5 r5 x5 ok
              obtain ⟨G6, r6, x6, fx6⟩ := ok.fix r5
              cases q4 : frz p ρ5 with
              | none => simp only [q4] at hc; cases hc
              | some w =>
                obtain ⟨d, ρ6⟩ := w
                simp only [q4] at hc
                obtain ⟨G7, r7, x7, f7⟩ := fx6.frz r6 q4
                by_cases hl : acc.length < 16777216 ∧ wipeOk ρ6 vs = true
                · rw [if_pos hl] at hc
                  have xx : Ext (upd B D0 (.lst xs)) G2 G7 := x3.trans (x4.trans (x5.trans (x6.trans x7)))
                  have hD7 : H5 D0 = some (.lst xs) := r7.base D0 _ upd_same
                  refine ⟨xs, hD7, by rw [fx.length, sizeLine_eq]; exact hl.1, ?_⟩
                  have rN := wipeN r7 hl.2
                  have fx' : FzA X.K G7 (xs ++ [v]) (acc ++ [d]) := (fx.mono xx.same).append (.cons f7 .nil)
                  exact ⟨hlt, acc ++ [d], xs ++ [v], wipeR ρ6 vs, G7, rN.grow hB (gD r7 xx), ext2.trans xx.subB, gD r7 xx, upd_same, fx', (rN.subB hB).2, hc⟩
                · rw [if_neg hl] at hc; cases hc
    · left
      have e' : i = ds.length := by omega
      subst e'
      rw [List.drop_length] at hc
      unfold compL at hc
      simp only [R.ok.injEq] at hc
      obtain ⟨rfl, rfl⟩ := hc
      refine ⟨hb (Nat.le_refl _), ?_⟩
      refine h (.ref D0) H2 G2 (rel1.back hw rel2 ext2) (ext1.trans ext2) ⟨D0, rfl, hG2, hB, .lst hx fx, fun j p hp hf hv => ?_⟩
      have hl : ρ1.length = ρ2.length := by
        have e1 := rel1.len
        have e2 := rel2.len
        rw [wipe_length] at e2
        omega
      by_cases hj : j ∈ vs
      · rw [backR_in hl hj] at hp
        rcases wipeOk_at hw hj with z | ⟨d', z⟩
        · rw [hp] at z; cases z
        · rw [hp] at z; cases z
          cases hf
      · rw [backR_out hj] at hp
        exact hn j p hp hf (by rw [wipe_out' hj]; exact hv)
variable {ws : List Nat} {y : Str} {py spos : Pos}
theorem sx_comp (hc : X.calm = true) (hN : X.N.Nodup) (hi : SI X tg iter ci) (ok : BlkOk X.N X.env.scope scope own) (hvs : ∀ i ∈ ws, i ∈ own.map (·.2))
    (hg : ∀ (s : Shared) (H : Hp) (C : Addr) (cl : List (Str × Addr)) (fp : List Addr), SG (X.blk s H scope (compEnvC scope cl C X.env) fp) tg ws g) (ht : ∀ (s : Shared) (H : Hp) (C : Addr) (cl : List (Str × Addr)) (fp : List Addr), SPt (X.blk s H scope (compEnvC scope cl C X.env) fp) ifs t)
    (he : ∀ (s : Shared) (H : Hp) (C : Addr) (cl : List (Str × Addr)) (fp : List Addr), SX (X.blk s H scope (compEnvC scope cl C X.env) fp) elt e) (hs : ∀ x, foldedSetIterable iter X.env x = pure x := by intro _; rfl) :
    SX X (.ListComp elt [⟨tg, iter, ifs, 0⟩] scope pos) (cComp ci g t e (own.map (·.2))) := fun W tk =>
  PEimp (pe_lc (tt := tT X Wf t) (te := tX X Wf e) (g := tG X ws g) hc hN (hi W tk) ok hg (fun s H C cl fp => ht s H C cl fp Wf takes0) (fun s H C cl fp => he s H C cl fp Wf takes0) hs) (comp_imp hvs)
theorem ss_setComp (i : Nat) (hc : X.calm = true) (hN : X.N.Nodup) (hi : SI X tg iter ci) (ok : BlkOk X.N X.env.scope scope own) (hvs : ∀ i ∈ ws, i ∈ own.map (·.2))
    (hg : ∀ (s : Shared) (H : Hp) (C : Addr) (cl : List (Str × Addr)) (fp : List Addr), SG (X.blk s H scope (compEnvC scope cl C X.env) fp) tg ws g) (ht : ∀ (s : Shared) (H : Hp) (C : Addr) (cl : List (Str × Addr)) (fp : List Addr), SPt (X.blk s H scope (compEnvC scope cl C X.env) fp) ifs t)
    (he : ∀ (s : Shared) (H : Hp) (C : Addr) (cl : List (Str × Addr)) (fp : List Addr), SX (X.blk s H scope (compEnvC scope cl C X.env) fp) elt e)
    (hsw : swapsWith (.ListComp elt [⟨tg, iter, ifs, 0⟩] scope pos) (some (.Name y py)) spos.line X.env = pure true := by exact sw_true rfl rfl rfl (by decide +kernel)) (hy : X.N[i]? = some y := by rfl) (hyl : X.env.scope.names.lookup y = some .local := by rfl) (hs : ∀ x, foldedSetIterable iter X.env x = pure x := by intro _; rfl) :
    SS X (.Assign [.Name y py] (.ListComp elt [⟨tg, iter, ifs, 0⟩] scope pos) spos) (cSet i (cComp ci g t e (own.map (·.2)))) := fun W tk _ =>
  PSimp (ps_setLc (tt := tT X Wf t) (te := tX X Wf e) (g := tG X ws g) hc hN hy hyl hsw (hi W tk) ok hg (fun s H C cl fp => ht s H C cl fp Wf takes0) (fun s H C cl fp => he s H C cl fp Wf takes0) hs) fun D σ H h => comp_imp hvs σ H _ (set_imp h)
end
end TN
namespace TN
open PySem PySem.Spec PyProof.Rows L2

/-! ### keys, dicts -/
def ckOf : D → Option Key
  | .int i => some (.inl i)
  | .str s => some (.inr s)
  | _ => none
theorem ckOf_keyD (k : Key) : ckOf (keyD k) = some k := by cases k <;> rfl
def keysOf : List D → Option (List Key)
  | [] => some []
  | d :: ds => match ckOf d, keysOf ds with
    | some (.inl i), some ks => some (.inl i :: ks)
    | _, _ => none
theorem keysOf_keyD : ∀ {ks : List Key}, (∀ x ∈ ks, ∃ i : Int, x = .inl i) → keysOf (ks.map keyD) = some ks
  | [], _ => rfl
  | k :: ks, h => by
    obtain ⟨i, rfl⟩ := h k (List.mem_cons_self ..)
    have := keysOf_keyD (ks := ks) fun x hx => h x (List.mem_cons_of_mem _ hx)
    simp only [List.map_cons, keysOf, ckOf_keyD, this]
theorem keysOf_cons {d : D} {ds : List D} {ks : List Key} (h : keysOf (d :: ds) = some ks) : ∃ (i : Int) (ks' : List Key), ckOf d = some (.inl i) ∧ keysOf ds = some ks' ∧ ks = .inl i :: ks' := by
  unfold keysOf at h
  split at h
  · rename_i i ks' e1 e2
    cases h
    exact ⟨i, ks', e1, e2, rfl⟩
  · cases h
theorem keysOf_ints : ∀ {ds : List D} {ks : List Key}, keysOf ds = some ks → ∀ x ∈ ks, ∃ i : Int, x = .inl i
  | [], ks, h, x, hx => by cases h; cases hx
  | d :: ds, ks, h, x, hx => by
    obtain ⟨i, ks', _, e2, rfl⟩ := keysOf_cons h
    rcases List.mem_cons.mp hx with z | z
    · exact ⟨i, z⟩
    · exact keysOf_ints e2 x z
def tkOf : D → Option (List Key)
  | .tuple ds => keysOf ds
  | _ => none
theorem tkOf_tkD {ks : List Key} (h : ∀ x ∈ ks, ∃ i : Int, x = .inl i) : tkOf (tkD ks) = some ks := keysOf_keyD h
theorem tkOf_ints {d : D} {ks : List Key} (h : tkOf d = some ks) : ∀ x ∈ ks, ∃ i : Int, x = .inl i := by
  cases d <;> first | (cases h; done) | exact keysOf_ints h
theorem Fz.key {K : PySem.W.Frag} {G : Hp} {v : V} {d : D} {k : Key} (h : Fz K G v d) (e : ckOf d = some k) : v = kV k := by
  cases h <;> simp only [ckOf, Option.some.injEq] at e <;> first | (cases e; done) | (subst e; rfl)
theorem FzA.keysV {K : PySem.W.Frag} {G : Hp} : ∀ {vs : List V} {ds : List D} {ks : List Key}, FzA K G vs ds → keysOf ds = some ks → vs = ks.map kV
  | _, _, _, .nil, e => by cases e; rfl
  | _, _, ks, .cons (d := d) (ds := ds) a b, e => by
    obtain ⟨i, ks', e1, e2, rfl⟩ := keysOf_cons e
    rw [a.key e1, b.keysV e2]; rfl
theorem Fz.tkey {K : PySem.W.Frag} {G : Hp} {v : V} {d : D} {ks : List Key} (h : Fz K G v d) (e : tkOf d = some ks) : ∃ b, v = .ref b ∧ Kt G b (ks.map kV) := by
  cases h <;> simp only [tkOf] at e <;> try (cases e; done)
  rename_i h1 h2
  rw [h2.keysV e] at h1
  exact ⟨_, rfl, h1⟩
theorem Vw.key {K : PySem.W.Frag} {G H : Hp} {v : V} {d : D} {k : Key} (h : Vw K G H v d) (e : ckOf d = some k) : v = kV k := by
  rcases h with h | ⟨a, _, h⟩
  · exact h.key e
  · cases h <;> cases e
theorem Vw.tkey {K : PySem.W.Frag} {G H : Hp} {v : V} {d : D} {ks : List Key} (s : Same G H) (h : Vw K G H v d) (e : tkOf d = some ks) : ∃ b, v = .ref b ∧ Kt H b (ks.map kV) := by
  rcases h with h | ⟨a, _, h⟩
  · obtain ⟨b, e1, e2⟩ := h.tkey e
    exact ⟨b, e1, e2.mono s⟩
  · cases h <;> cases e

def lookK : List (D × D) → Key → Option D
  | [], _ => none
  | (kd, v) :: es, k => if ckOf kd = some k then some v else lookK es k
def putKD (es : List (D × D)) (k : Key) (d : D) : List (D × D) := if (lookK es k).isSome = true then es.map (fun e => if ckOf e.1 = some k then (e.1, d) else e) else es ++ [(keyD k, d)]
section
variable {K : PySem.W.Frag} {G : Hp}
theorem FzK.look (k : Key) : ∀ {kvs : List (Key × V)} {es : List (D × D)}, FzK K G kvs es → (valV kvs k = none ∧ lookK es k = none) ∨ ∃ v d, valV kvs k = some v ∧ lookK es k = some d ∧ Fz K G v d
  | _, _, .nil => .inl ⟨rfl, rfl⟩
  | _, _, .cons (k := k') (v := v) (d := d) a b => by
    by_cases h : k' = k
    · subst h
      refine .inr ⟨v, d, valV_pos rfl, ?_, a⟩
      unfold lookK
      rw [if_pos (ckOf_keyD _)]
    · have h2 : ¬ ckOf (keyD k') = some k := fun z => by
        rw [ckOf_keyD] at z
        exact h (Option.some.inj z)
      rcases FzK.look k b with ⟨z1, z2⟩ | ⟨w, e, z1, z2, z3⟩
      · exact .inl ⟨(valV_neg h).trans z1, by unfold lookK; rw [if_neg h2]; exact z2⟩
      · exact .inr ⟨w, e, (valV_neg h).trans z1, by unfold lookK; rw [if_neg h2]; exact z2, z3⟩
theorem FzK.repl {k : Key} {v : V} {d : D} (h : Fz K G v d) : ∀ {kvs : List (Key × V)} {es : List (D × D)}, FzK K G kvs es → FzK K G (kvs.map fun kv => if kv.1 = k then (kv.1, v) else kv) (es.map fun e => if ckOf e.1 = some k then (e.1, d) else e)
  | _, _, .nil => .nil
  | _, _, .cons (k := k') (v := w) (d := e) a b => by
    simp only [List.map_cons, ckOf_keyD, Option.some.injEq]
    by_cases hk : k' = k
    · rw [if_pos hk, if_pos hk]; exact .cons h (FzK.repl h b)
    · rw [if_neg hk, if_neg hk]; exact .cons a (FzK.repl h b)
theorem FzK.snoc {k : Key} {v : V} {d : D} (h : Fz K G v d) : ∀ {kvs : List (Key × V)} {es : List (D × D)}, FzK K G kvs es → FzK K G (kvs ++ [(k, v)]) (es ++ [(keyD k, d)])
  | _, _, .nil => .cons h .nil
  | _, _, .cons a b => .cons a (FzK.snoc h b)
theorem FzK.put {k : Key} {v : V} {d : D} {kvs : List (Key × V)} {es : List (D × D)} (b : FzK K G kvs es) (h : Fz K G v d) : FzK K G (putK kvs k v) (putKD es k d) := by
  unfold putK putKD
  have := valV_any k kvs
  rcases FzK.look k b with ⟨z1, z2⟩ | ⟨w, e, z1, z2, _⟩
  · rw [if_neg (by rw [this, z1]; exact Bool.false_ne_true), if_neg (by rw [z2]; exact Bool.false_ne_true)]
    exact FzK.snoc h b
  · rw [if_pos (by rw [this, z1]; rfl), if_pos (by rw [z2]; rfl)]
    exact FzK.repl h b
theorem FzK.keys : ∀ {kvs : List (Key × V)} {es : List (D × D)}, FzK K G kvs es → es.map (·.1) = kvs.map fun p => keyD p.1
  | _, _, .nil => rfl
  | _, _, .cons _ b => by simp [b.keys]
end

def lookT : List (D × D) → List Key → Option D
  | [], _ => none
  | (kd, v) :: es, k => if tkOf kd = some k then some v else lookT es k
def putT (es : List (D × D)) (k : List Key) (d : D) : List (D × D) := if (lookT es k).isSome = true then es.map (fun e => if tkOf e.1 = some k then (e.1, d) else e) else es ++ [(tkD k, d)]
section
variable {K : PySem.W.Frag} {G : Hp}
theorem FzT.look (k : List Key) : ∀ {kvs : List RowT} {es : List (D × D)}, FzT K G kvs es → (valV (rowsV kvs) k = none ∧ lookT es k = none) ∨ ∃ v d, valV (rowsV kvs) k = some v ∧ lookT es k = some d ∧ Fz K G v d
  | _, _, .nil => .inl ⟨rfl, rfl⟩
  | _, _, .cons (k := k') (b := b') (v := v) (vs := vs) (d := d) hi hk a b => by
    have er : rowsV ((k', b', v) :: vs) = (k', v) :: rowsV vs := rfl
    rw [er]
    by_cases h : k' = k
    · subst h
      refine .inr ⟨v, d, valV_pos rfl, ?_, a⟩
      unfold lookT
      rw [if_pos (tkOf_tkD hi)]
    · have h2 : ¬ tkOf (tkD k') = some k := fun z => by
        rw [tkOf_tkD hi] at z
        exact h (Option.some.inj z)
      rcases FzT.look k b with ⟨z1, z2⟩ | ⟨w, e, z1, z2, z3⟩
      · exact .inl ⟨(valV_neg h).trans z1, by unfold lookT; rw [if_neg h2]; exact z2⟩
      · exact .inr ⟨w, e, (valV_neg h).trans z1, by unfold lookT; rw [if_neg h2]; exact z2, z3⟩
theorem FzT.repl {k : List Key} {v : V} {d : D} (h : Fz K G v d) : ∀ {kvs : List RowT} {es : List (D × D)}, FzT K G kvs es → FzT K G (kvs.map fun r => if r.1 = k then (r.1, r.2.1, v) else r) (es.map fun e => if tkOf e.1 = some k then (e.1, d) else e)
  | _, _, .nil => .nil
  | _, _, .cons (k := k') (v := w) (d := e) hi hk a b => by
    simp only [List.map_cons, tkOf_tkD hi, Option.some.injEq]
    by_cases hq : k' = k
    · rw [if_pos hq, if_pos hq]; exact .cons hi hk h (FzT.repl h b)
    · rw [if_neg hq, if_neg hq]; exact .cons hi hk a (FzT.repl h b)
theorem FzT.snoc {k : List Key} {c : Addr} {v : V} {d : D} (hi : ∀ x ∈ k, ∃ i : Int, x = .inl i) (hk : Kt G c (k.map kV)) (h : Fz K G v d) : ∀ {kvs : List RowT} {es : List (D × D)}, FzT K G kvs es → FzT K G (kvs ++ [(k, c, v)]) (es ++ [(tkD k, d)])
  | _, _, .nil => .cons hi hk h .nil
  | _, _, .cons a1 a2 a b => .cons a1 a2 a (FzT.snoc hi hk h b)
theorem FzT.put {k : List Key} {c : Addr} {v : V} {d : D} {kvs : List RowT} {es : List (D × D)} (b : FzT K G kvs es) (hi : ∀ x ∈ k, ∃ i : Int, x = .inl i) (hk : Kt G c (k.map kV)) (h : Fz K G v d) : FzT K G (putR kvs k c v) (putT es k d) := by
  unfold putR putT
  rcases FzT.look k b with ⟨z1, z2⟩ | ⟨w, e, z1, z2, _⟩
  · rw [if_neg (by rw [z1]; exact Bool.false_ne_true), if_neg (by rw [z2]; exact Bool.false_ne_true)]
    exact FzT.snoc hi hk h b
  · rw [if_pos (by rw [z1]; rfl), if_pos (by rw [z2]; rfl)]
    exact FzT.repl h b
theorem FzT.kt : ∀ {kvs : List RowT} {es : List (D × D)}, FzT K G kvs es → ∀ r ∈ kvs, Kt G r.2.1 (r.1.map kV)
  | _, _, .nil, r, hr => by cases hr
  | _, _, .cons _ hk _ b, r, hr => by
    rcases List.mem_cons.mp hr with z | z
    · subst z; exact hk
    · exact b.kt r z
end

/-! ### what is looked at is a dict -/
theorem isE_no {es : List (D × D)} (h : ∀ (b : Bool) (x : D) (r : List (D × D)), es = (.bool b, x) :: r → False) : isE es = false := by
  unfold isE
  split
  · exact (h _ _ _ rfl).elim
  · rfl
theorem Vw.dict {K : PySem.W.Frag} {G H : Hp} {v : V} {es : List (D × D)} (s : Same G H) (hE : isE es = false) (h : Vw K G H v (.dict es)) :
    (∃ a kvs, v = .ref a ∧ H a = some (.dK kvs) ∧ FzK K G kvs es) ∨ ∃ a kvs es', v = .ref a ∧ H a = some (dtO a kvs) ∧ FzT K G kvs es' ∧ es = (.none, .none) :: es' := by
  rcases h with h | ⟨a, rfl, h⟩
  · cases h with
    | dK e x => exact .inl ⟨_, _, rfl, s _ _ e, x⟩
    | dT e x => exact .inr ⟨_, _, _, rfl, s _ _ e, x, rfl⟩
    | ex => cases hE
    | ob => cases hE
  · cases h with
    | dK e x => exact .inl ⟨_, _, rfl, e, x⟩
    | dT e x => exact .inr ⟨_, _, _, rfl, e, x, rfl⟩
    | ob => cases hE
theorem FzK.nomark {K : PySem.W.Frag} {G : Hp} {kvs : List (Key × V)} {es : List (D × D)} {v : D} (h : FzK K G kvs ((.none, v) :: es)) : False := by
  have e := h.keys
  cases kvs with
  | nil => simp at e
  | cons p r =>
    obtain ⟨k, w⟩ := p
    simp only [List.map_cons, List.cons.injEq] at e
    cases k <;> cases e.1
/-- d[k], as far as it is there -/
def dGet (es : List (D × D)) (y : D) : Option (Option D) := match es with
  | (.bool _, _) :: _ => none
  | (.none, _) :: es => match tkOf y with
    | some k => some (lookT es k)
    | none => none
  | es => match ckOf y with
    | some k => some (lookK es k)
    | none => none
def dPut (es : List (D × D)) (y d : D) : Option (List (D × D)) := match es with
  | (.bool _, _) :: _ => none
  | (.none, m) :: es => match tkOf y with
    | some k => if es.length < 16777216 then some ((.none, m) :: putT es k d) else none
    | none => none
  | es => match ckOf y with
    | some k => if es.length < 16777216 then some (putKD es k d) else none
    | none => none
theorem Vw.get {K : PySem.W.Frag} {G H : Hp} {v y : V} {es : List (D × D)} {dy : D} {o : Option D} (s : Same G H) (h : Vw K G H v (.dict es)) (hy : Vw K G H y dy) (e : dGet es dy = some o) :
    ∃ a ov, v = .ref a ∧ DG H a y ov ∧ ((ov = none ∧ o = none) ∨ ∃ w d, ov = some w ∧ o = some d ∧ Fz K G w d) := by
  have hE : isE es = false := isE_no fun b x r z => by subst z; cases e
  rcases h.dict s hE with ⟨a, kvs, rfl, e1, f⟩ | ⟨a, kvs, es', rfl, e1, f, rfl⟩
  · unfold dGet at e
    split at e
    · cases e
    · exact f.nomark.elim
    · cases q : ckOf dy with
      | none => rw [q] at e; cases e
      | some k =>
        rw [q] at e; cases e
        refine ⟨a, valV kvs k, rfl, .inl (.inl ⟨kvs, k, .inl e1, hy.key q, rfl⟩), ?_⟩
        rcases f.look k with ⟨z1, z2⟩ | ⟨w, d, z1, z2, z3⟩
        · exact .inl ⟨z1, z2⟩
        · exact .inr ⟨w, d, z1, z2, z3⟩
  · unfold dGet at e
    simp only at e
    cases q : tkOf dy with
    | none => rw [q] at e; cases e
    | some k =>
      rw [q] at e; cases e
      obtain ⟨b, rfl, hb⟩ := hy.tkey s q
      refine ⟨a, valV (rowsV kvs) k, rfl, .inr ⟨kvs, k, b, e1, fun r hr => (f.kt r hr).mono s, rfl, hb, rfl⟩, ?_⟩
      rcases f.look k with ⟨z1, z2⟩ | ⟨w, d, z1, z2, z3⟩
      · exact .inl ⟨z1, z2⟩
      · exact .inr ⟨w, d, z1, z2, z3⟩
/-! ### d[k] as an item -/
def rDGet : R2 := fun x y H Q => ∃ a v, x = .ref a ∧ DG H a y (some v) ∧ Q v H
theorem ix_dict {X : Cx} (hu : X.A.units + 1 < cLine) : IxR X rDGet := by
  intro value slice pins s σ H x y v u Q I rx ry h hs
  obtain ⟨a, w, rfl, g, q⟩ := h
  cases rx
  exact tail_any (ops := [.ref a, u]) (dg_typeIs I g) PySem.F.slot_dict_getitem.lookup (dg_getItem hu I g ry fun w' s3 I3 rw' => ⟨w, H, I3, rw', q⟩) hs
def rDIn (n : Bool) : R2 := fun x y H Q => ∃ a o, y = .ref a ∧ DG H a x o ∧ Q (.bl (if n = true then !o.isSome else o.isSome)) H
theorem op_inDict {X : Cx} (hu : X.A.units + 1 < cLine) : OpR X (compareOp .In) (rDIn false) := by
  intro pins s σ H x y v u Q I rx ry h
  obtain ⟨a, o, rfl, g, q⟩ := h
  cases ry
  exact dg_in hu I g rx fun s3 I3 => ⟨.bl o.isSome, H, I3, rfl, q⟩
theorem op_notInDict {X : Cx} (hu : X.A.units + 1 < cLine) : OpR X (compareOp .NotIn) (rDIn true) := by
  intro pins s σ H x y v u Q I rx ry h
  obtain ⟨a, o, rfl, g, q⟩ := h
  cases ry
  exact dg_notIn hu I g rx fun s3 I3 => ⟨.bl (!o.isSome), H, I3, rfl, q⟩
theorem isSome_of {K : PySem.W.Frag} {G : Hp} {ov : Option V} {o : Option D} (h : (ov = none ∧ o = none) ∨ ∃ w d, ov = some w ∧ o = some d ∧ Fz K G w d) : ov.isSome = o.isSome := by
  rcases h with ⟨rfl, rfl⟩ | ⟨w, d, rfl, rfl, _⟩ <;> rfl
/-! ### {} -/
section
variable {X : Cx} {pos : Pos}
def cNewK : CE := fun ρ => .ok (.tmp (.dict [])) ρ
def cNewT : CE := fun ρ => .ok (.tmp (.dict [(.none, .none)])) ρ
theorem sx_newK : SX X (.Dict [] [] pos) cNewK := fun W tk => PEimp pe_dnewK (by
  rintro σ H Q ⟨L, ρ, G, B, rel, h⟩ p hp
  exact Got.done rel h (.tmp hp (.dK upd_same .nil)))
theorem sx_newT : SX X (.Dict [] [] pos) cNewT := fun W tk => PEimp pe_dnewX (by
  rintro σ H Q ⟨L, ρ, G, B, rel, h⟩ p hp
  exact Got.done rel h (.tmp hp (.dT upd_same .nil)))
end
end TN
namespace TN
open PySem PySem.Spec PyProof.Rows L2

/-! ### + - * // % ** -/
section
variable {X : Cx} {pins : List (Addr × Obj)} {σ : L2.St} {H : Hp} {s : Shared} {l b : Addr} {xs ys zs : List V}
theorem lstR (I : Inv X pins σ H s) (hH : Rd H l (.lst xs)) : xs.length ≤ sizeLine ∧ ∃ (its : List Value) (n : Nat), Vals xs its ∧ xs.length = its.length ∧ s.heap.get? l = some { cls := .type "list", data := .seq its.toArray n } := by
  obtain ⟨z, its, n, r, e⟩ := hH.ok I.hok
  exact ⟨z, its, n, r, r.length, e⟩
end
section
variable {X : Cx}
def rCatL : R2 := fun x y H Q => ∃ l b xs zs, x = .ref l ∧ y = .ref b ∧ Rd H l (.lst xs) ∧ Rd H b (.lst zs) ∧ xs.length + zs.length ≤ sizeLine ∧ ∀ p, H p = none → Q (.ref p) (upd H p (.lst (xs ++ zs)))
theorem op_catL : OpR X (binaryOp .Add) rCatL := by
  intro pins s σ H x y v u Q I rx ry h
  obtain ⟨l, b, xs, zs, rfl, rfl, hH, hB, hz, q⟩ := h
  cases rx
  cases ry
  obtain ⟨z, its, n, r, hl, e⟩ := lstR I hH
  obtain ⟨z2, its2, n2, r2, hl2, e2⟩ := lstR I hB
  refine PySem.P.add_list e e2 ?_ (by rw [List.size_toArray, List.size_toArray]; omega)
  have ea : its.toArray ++ its2.toArray = (its ++ its2).toArray := by simp
  rw [ea]
  exact ⟨.ref _, _, I.lnew (t' := s.toks) (r.append r2) (by rw [List.length_append]; omega), rfl, q _ I.fresh⟩
def rRepL : R2 := fun x y H Q => ∃ l k xs, x = .ref l ∧ y = .int k ∧ Rd H l (.lst xs) ∧ -(2 ^ 63) ≤ k ∧ k < 2 ^ 63 ∧ xs.length * k.toNat ≤ sizeLine ∧
  ∀ p, H p = none → Q (.ref p) (upd H p (.lst (List.replicate k.toNat xs).flatten))
theorem op_repL : OpR X (binaryOp .Mult) rRepL := by
  intro pins s σ H x y v u Q I rx ry h
  obtain ⟨l, k, xs, rfl, rfl, hH, h1, h2, hz, q⟩ := h
  cases rx
  obtain ⟨t, rfl⟩ := ry
  obtain ⟨z, its, n, r, hl, e⟩ := lstR I hH
  have hlen : its.toArray.size * k.toNat ≤ sizeLine := by rw [List.size_toArray, ← hl]; exact hz
  have hcap : ¬ its.toArray.size * k.toNat > (2 ^ 63 - 1) / 8 := by
    have : (sizeLine : Nat) ≤ (2 ^ 63 - 1) / 8 := by decide
    omega
  have hfit : ¬ (!Builtin.List.listFitsIndex k) = true := by
    rw [fitsIndex_both h1 h2]
    exact Bool.false_ne_true
  have hlong : ¬ Builtin.List.listTooLong (its.toArray.size * k.toNat) = true := by
    rw [notLongL hlen]
    exact Bool.false_ne_true
  have hnew : List.foldl (fun x1 x2 => x1 ++ x2) #[] (List.replicate (if its.toArray.isEmpty = true then 0 else k.toNat) its.toArray) = (List.replicate k.toNat its).flatten.toArray := by
    have f0 : ∀ m : Nat, List.foldl (fun x1 x2 => x1 ++ x2) #[] (List.replicate m its.toArray) = (List.replicate m its).flatten.toArray := fun m => by
      have := foldl_rep its m []
      rw [List.nil_append] at this
      exact this
    rw [f0]
    cases its with
    | nil => simp
    | cons a r' => rw [if_neg (by simp)]
  refine wpAny_binaryOp_repeat_ref (T := "list") (U := "int") (by decide) ⟨_, e, rfl⟩ (fun s' => typeIs_int s' k t) noFill_list_mul F.fills_int_mul F.slot_int_rmul repeat_list F.slot_int_index.lookup
    (call_meets F.slot_int_rmul (typeIs_int s k t) F.entry_int_rmul (F.args_int_rmul_2 _ _) (int___rmul___int_list k t l its.toArray n)
      ⟨e, rfl, ⟨_, e, rfl⟩, call_meets F.slot_list_mul ⟨_, e, rfl⟩ F.entry_list_mul (F.args_list_mul_2 _ _) (AutoListH.list___mul___list_int_3 l its.toArray n k t hfit hcap hlong) ⟨e, ?_⟩⟩)
  rw [hnew]
  exact ⟨.ref _, _, I.lnew (t' := s.toks) (r.rep k.toNat) (by rw [PyProof.Rows.lm_len_rep_flat, Nat.mul_comm]; exact hz), rfl, q _ I.fresh⟩
def opAdd : D → D → Option Pl
  | .int i, .int j => some (.val (.int (i + j)))
  | .str a, .str b => if a.length + b.length ≤ 16777216 then some (.val (.str (a ++ b))) else none
  | .list a, .list b => if a.length + b.length ≤ 16777216 then some (.tmp (.list (a ++ b))) else none
  | .tuple a, .tuple b => if a.length + b.length ≤ 16777216 then some (.val (.tuple (a ++ b))) else none
  | _, _ => none
def rAddA (K : PySem.W.Frag) : R2 := fun x y H Q => rI0 (fun i j => .int (i + j)) x y H Q ∨ ((∃ i j, x = .str i ∧ y = .str j ∧ i.length + j.length ≤ sizeLine ∧ Q (.str (i ++ j)) H) ∨ (rCatL x y H Q ∨ rCatK K x y H Q))
theorem op_addA : OpR X (binaryOp .Add) (rAddA X.K) := op_add.or (op_add_str.or (op_catL.or op_catK))
theorem add_ok (K : PySem.W.Frag) : OpOk K (rAddA K) opAdd := by
  intro G H x y dx dy p Q s hx hy e q
  cases dx <;> cases dy <;> simp only [opAdd] at e <;> try (cases e; done)
  case int.int i j =>
    cases e
    exact .inl ⟨i, j, hx.int, hy.int, q _ _ (.fz (.int _))⟩
  case str.str i j =>
    split at e
    · rename_i hl
      cases e
      exact .inr (.inl ⟨i, j, hx.str, hy.str, by rw [sizeLine_eq]; exact hl, q _ _ (.fz (.str _))⟩)
    · cases e
  case list.list i j =>
    split at e
    · rename_i hl
      cases e
      obtain ⟨a, xs, rfl, h1, h2⟩ := hx.lst s
      obtain ⟨b, ys, rfl, h3, h4⟩ := hy.lst s
      exact .inr (.inr (.inl ⟨a, b, xs, ys, rfl, rfl, h1, h3, by rw [h2.length, h4.length, sizeLine_eq]; exact hl, fun p hp => q _ _ (.lst hp (h2.append h4))⟩))
    · cases e
  case tuple.tuple i j =>
    split at e
    · rename_i hl
      cases e
      obtain ⟨a, xs, rfl, g1, h1, h2⟩ := hx.tup s
      obtain ⟨b, ys, rfl, g3, h3, h4⟩ := hy.tup s
      refine .inr (.inr (.inr ⟨a, b, xs, ys, rfl, rfl, h1, h3, by rw [h2.length, h4.length, sizeLine_eq]; exact hl, fun e1 => ?_, fun _ e1 => ?_, fun _ _ p o hp hd => q _ _ (.tup hp hd (h2.append h4))⟩))
      · subst e1
        cases h2
        exact q _ _ (.fz (.tup g3 h4))
      · subst e1
        cases h4
        rw [List.append_nil] at q
        exact q _ _ (.fz (.tup g1 h2))
    · cases e
def opSub : D → D → Option Pl
  | .int i, .int j => some (.val (.int (i - j)))
  | _, _ => none
theorem sub_ok (K : PySem.W.Frag) : OpOk K (rI0 fun i j => .int (i - j)) opSub := by
  intro G H x y dx dy p Q s hx hy e q
  cases dx <;> cases dy <;> simp only [opSub] at e <;> try (cases e; done)
  cases e
  exact ⟨_, _, hx.int, hy.int, q _ _ (.fz (.int _))⟩
/-- one of both factors below 2 ^ 64 -/
def mulB (i j : Int) : Bool := (decide (-18446744073709551616 < i) && decide (i < 18446744073709551616)) || (decide (-18446744073709551616 < j) && decide (j < 18446744073709551616))
def opMul : D → D → Option Pl
  | .int i, .int j => if mulB i j = true then some (.val (.int (i * j))) else none
  | .list a, .int k => if a.length * k.toNat ≤ 16777216 ∧ -1000000 ≤ k ∧ k ≤ 100000000 then some (.tmp (.list (List.replicate k.toNat a).flatten)) else none
  | _, _ => none
theorem mulB_ok {i j : Int} (h : mulB i j = true) : CMul i j := by
  simp only [mulB, Bool.or_eq_true, Bool.and_eq_true, decide_eq_true_eq] at h
  unfold CMul
  omega
theorem op_mulA : OpR X (binaryOp .Mult) (fun x y H Q => rI CMul (fun i j => .int (i * j)) x y H Q ∨ rRepL x y H Q) := op_mul.or op_repL
theorem mul_ok (K : PySem.W.Frag) : OpOk K (fun x y H Q => rI CMul (fun i j => .int (i * j)) x y H Q ∨ rRepL x y H Q) opMul := by
  intro G H x y dx dy p Q s hx hy e q
  cases dx <;> cases dy <;> simp only [opMul] at e <;> try (cases e; done)
  case int.int i j =>
    split at e
    · rename_i hl
      cases e
      exact .inl ⟨_, _, hx.int, hy.int, mulB_ok hl, q _ _ (.fz (.int _))⟩
    · cases e
  case list.int a k =>
    split at e
    · rename_i hl
      cases e
      obtain ⟨p, xs, rfl, h1, h2⟩ := hx.lst s
      refine .inr ⟨p, k, xs, rfl, hy.int, h1, by omega, by omega, by rw [h2.length, sizeLine_eq]; exact hl.1, fun p hp => q _ _ (.lst hp (h2.rep _))⟩
    · cases e
def opDiv : D → D → Option Pl
  | .int i, .int j => if 0 < j ∧ j < 10000000000000000000000000000000000000000000000000000000000000000000000 then some (.val (.int (i / j))) else none
  | _, _ => none
theorem div_ok (K : PySem.W.Frag) : OpOk K (rI CDivW fun i j => .int (i / j)) opDiv := by
  intro G H x y dx dy p Q s hx hy e q
  cases dx <;> cases dy <;> simp only [opDiv] at e <;> try (cases e; done)
  split at e
  · rename_i hl
    cases e
    exact ⟨_, _, hx.int, hy.int, wide_div (b := 300) hl.1 (by omega) (by decide) (by decide), q _ _ (.fz (.int _))⟩
  · cases e
def opMod : D → D → Option Pl
  | .int i, .int j => if 0 < j then some (.val (.int (i % j))) else none
  | _, _ => none
theorem mod_ok (K : PySem.W.Frag) : OpOk K (rI (fun _ j => 0 < j) fun i j => .int (i % j)) opMod := by
  intro G H x y dx dy p Q s hx hy e q
  cases dx <;> cases dy <;> simp only [opMod] at e <;> try (cases e; done)
  split at e
  · rename_i hl
    cases e
    exact ⟨_, _, hx.int, hy.int, hl, q _ _ (.fz (.int _))⟩
  · cases e
def opPow : D → D → Option Pl
  | .int i, .int j => if 0 ≤ j ∧ j ≤ 1000 ∧ i.natAbs < 18446744073709551616 then some (.val (.int (i ^ j.toNat))) else none
  | _, _ => none
theorem pow_ok (K : PySem.W.Frag) : OpOk K (rI CPow fun i j => .int (i ^ j.toNat)) opPow := by
  intro G H x y dx dy p Q s hx hy e q
  cases dx <;> cases dy <;> simp only [opPow] at e <;> try (cases e; done)
  split at e
  · rename_i hl
    cases e
    exact ⟨_, _, hx.int, hy.int, ⟨hl.1, by omega, by omega⟩, q _ _ (.fz (.int _))⟩
  · cases e
def opNeg : D → Option Pl
  | .int i => some (.val (.int (-i)))
  | _ => none
/-! ### comparisons -/
def opLtG (f : Int → Int → Bool) : D → D → Option Pl
  | .int i, .int j => some (.val (.bool (f i j)))
  | _, _ => none
theorem ltG_ok (K : PySem.W.Frag) (f : Int → Int → Bool) : OpOk K (rI0 fun i j => .bl (f i j)) (opLtG f) := by
  intro G H x y dx dy p Q s hx hy e q
  cases dx <;> cases dy <;> simp only [opLtG] at e <;> try (cases e; done)
  cases e
  exact ⟨_, _, hx.int, hy.int, q _ _ (.fz (.bl _))⟩
abbrev opLt := opLtG fun i j => decide (i < j)
abbrev opLe := opLtG fun i j => decide (i ≤ j)
abbrev opGt := opLtG fun i j => decide (j < i)
abbrev opGe := opLtG fun i j => decide (j ≤ i)
/-- what is looked at as data -/
theorem Fz.dp {K : PySem.W.Frag} {G H : Hp} (s : Same G H) : ∀ (d : D) (v : V), Fz K G v d → d.canLay0 = true → Dp K H v d := by
  intro d v h
  refine Fz.rec (motive_1 := fun v d _ => d.canLay0 = true → Dp K H v d) (motive_2 := fun v d _ => PyData.canLayAll0 d = true → DpAll K H v d) (motive_3 := fun _ _ _ => True) (motive_4 := fun _ _ _ => True) (motive_5 := fun _ _ _ => True) ?_ ?_ ?_ ?_ ?_ ?_ ?_ ?_ ?_ ?_ ?_ ?_ ?_ ?_ ?_ ?_ ?_ ?_ h
  · exact fun _ => .non
  · exact fun b _ => .bl b
  · exact fun i _ => .int i
  · exact fun x _ => .str x
  · exact fun h _ ih c => .lst (.inl (Same.rd s h)) (ih (by simpa [PyData.canLay0] using c))
  · exact fun h _ ih c => .tup (Same.tp s (sqt h)) (ih (by simpa [PyData.canLay0] using c))
  · exact fun _ _ _ c => absurd c (by simp [PyData.canLay0])
  · exact fun _ _ _ c => absurd c (by simp [PyData.canLay0])
  · exact fun _ _ _ _ _ _ c => absurd c (by simp [exD, PyData.canLay0])
  · exact fun _ _ _ _ c => absurd c (by simp [obD, PyData.canLay0])
  · exact fun _ => .nil
  · exact fun _ _ a b c => by
      simp only [PyData.canLayAll0, Bool.and_eq_true] at c
      exact .cons (a c.1) (b c.2)
  · trivial
  · exact fun _ _ _ _ => trivial
  · trivial
  · exact fun _ _ _ _ _ _ => trivial
  · trivial
  · exact fun _ _ _ _ => trivial
theorem FzA.dp {K : PySem.W.Frag} {G H : Hp} (s : Same G H) : ∀ {ds : List D} {vs : List V}, FzA K G vs ds → PyData.canLayAll0 ds = true → DpAll K H vs ds
  | [], _, .nil, _ => .nil
  | d :: ds, _, .cons a b, c => by
    simp only [PyData.canLayAll0, Bool.and_eq_true] at c
    exact .cons (Fz.dp s _ _ a c.1) (FzA.dp s b c.2)
theorem Vw.dp {K : PySem.W.Frag} {G H : Hp} {v : V} {d : D} (s : Same G H) (h : Vw K G H v d) (c : d.canLay0 = true) : Dp K H v d := by
  rcases h with h | ⟨a, rfl, h⟩
  · exact Fz.dp s _ _ h c
  · cases h with
    | lst e x => exact .lst (.inl (.inl e)) (x.dp s (by simpa [PyData.canLay0] using c))
    | dK e x => exact absurd c (by simp [PyData.canLay0])
    | dT e x => exact absurd c (by simp [PyData.canLay0])
    | ob e o x => exact absurd c (by simp [PyData.canLay0, obD])
def opEq (x y : D) : Option Pl := if SeqAt.shaped x = true ∧ SeqAt.shaped y = true then some (.val (.bool (PyData.eqv x y))) else none
def opNe (x y : D) : Option Pl := if SeqAt.shaped x = true ∧ SeqAt.shaped y = true then some (.val (.bool (!PyData.eqv x y))) else none
theorem eq_ok (K : PySem.W.Frag) : OpOk K (rEqD K) opEq := by
  intro G H x y dx dy p Q s hx hy e q
  unfold opEq at e
  split at e
  · rename_i h
    cases e
    exact ⟨dx, dy, hx.dp s (SeqAt.canLay_of_shaped h.1), hy.dp s (SeqAt.canLay_of_shaped h.2), h.1, h.2, q _ _ (.fz (.bl _))⟩
  · cases e
theorem ne_ok (K : PySem.W.Frag) : OpOk K (rNeD K) opNe := by
  intro G H x y dx dy p Q s hx hy e q
  unfold opNe at e
  split at e
  · rename_i h
    cases e
    exact ⟨dx, dy, hx.dp s (SeqAt.canLay_of_shaped h.1), hy.dp s (SeqAt.canLay_of_shaped h.2), h.1, h.2, q _ _ (.fz (.bl _))⟩
  · cases e
/-- is None -/
def isNonD : D → Bool
  | .none => true
  | _ => false
def opIsN (x y : D) : Option Pl := match y with
  | .none => some (.val (.bool (isNonD x)))
  | _ => none
def opNotN (x y : D) : Option Pl := match y with
  | .none => some (.val (.bool (!isNonD x)))
  | _ => none
theorem Vw.isNon {K : PySem.W.Frag} {G H : Hp} {v : V} {d : D} (h : Vw K G H v d) : decide (v = .non) = isNonD d := by
  rcases h with h | ⟨a, rfl, h⟩
  · cases h <;> rfl
  · cases h <;> rfl
theorem isN_ok (K : PySem.W.Frag) : OpOk K (fun x y H Q => y = .non ∧ Q (.bl (decide (x = .non))) H) opIsN := by
  intro G H x y dx dy p Q s hx hy e q
  cases dy <;> simp only [opIsN] at e <;> try (cases e; done)
  cases e
  exact ⟨hy.non, by rw [hx.isNon]; exact q _ _ (.fz (.bl _))⟩
theorem notN_ok (K : PySem.W.Frag) : OpOk K (fun x y H Q => y = .non ∧ Q (.bl (!decide (x = .non))) H) opNotN := by
  intro G H x y dx dy p Q s hx hy e q
  cases dy <;> simp only [opNotN] at e <;> try (cases e; done)
  cases e
  exact ⟨hy.non, by rw [hx.isNon]; exact q _ _ (.fz (.bl _))⟩

/-! ### items, slices -/
def opIx : D → D → Option Pl
  | .list a, .int i => (atI a i).map .val
  | .tuple a, .int i => (atI a i).map .val
  | .str z, .int i => if z.length ≤ 16777216 then (atI z.cps.toList i).map (fun c => .val (.str ⟨#[c]⟩)) else none
  | .dict es, y => match dGet es y with
    | some (some d) => some (.val d)
    | _ => none
  | _, _ => none
theorem FzA.atI {K : PySem.W.Frag} {G : Hp} {vs : List V} {ds : List D} {i : Int} {d : D} (h : FzA K G vs ds) (e : L2.atI ds i = some d) : ∃ v, L2.atI vs i = some v ∧ Fz K G v d := by
  unfold L2.atI at e ⊢
  rw [h.length]
  cases q : ixN ds.length i with
  | none => rw [q] at e; cases e
  | some j =>
    rw [q] at e
    exact h.get e
def rIxA (K : PySem.W.Frag) : R2 := fun x y H Q => rIx K x y H Q ∨ rDGet x y H Q
theorem ix_any (hu : X.A.units + 65 < cLine) : IxR X (rIxA X.K) := ix_seq.or (ix_dict (by omega))
theorem ix_ok (K : PySem.W.Frag) : OpOk K (rIxA K) opIx := by
  intro G H x y dx dy p Q s hx hy e q
  cases dx
  case dict es =>
    have e : (match dGet es dy with
      | some (some d) => some (Pl.val d)
      | _ => none) = some p := by cases dy <;> exact e
    split at e
    · rename_i d hd
      cases e
      obtain ⟨a, ov, rfl, g, h⟩ := hx.get s hy hd
      rcases h with ⟨_, z⟩ | ⟨w, d', rfl, z, f⟩
      · cases z
      · cases z
        exact .inr ⟨a, w, rfl, g, q _ _ (.fz f)⟩
    · cases e
  all_goals (cases dy <;> simp only [opIx] at e <;> try (cases e; done))
  case list.int a i =>
    cases e1 : atI a i with
    | none => rw [e1] at e; cases e
    | some d =>
      rw [e1] at e; cases e
      obtain ⟨p, xs, rfl, h1, h2⟩ := hx.lst s
      obtain ⟨v, h3, h4⟩ := h2.atI e1
      exact .inl (.inl ⟨p, xs, i, v, rfl, hy.int, .inl h1, h3, q _ _ (.fz h4)⟩)
  case tuple.int a i =>
    cases e1 : atI a i with
    | none => rw [e1] at e; cases e
    | some d =>
      rw [e1] at e; cases e
      obtain ⟨p, xs, rfl, _, h1, h2⟩ := hx.tup s
      obtain ⟨v, h3, h4⟩ := h2.atI e1
      exact .inl (.inr (.inl ⟨p, xs, i, v, rfl, hy.int, h1, h3, q _ _ (.fz h4)⟩))
  case str.int z i =>
    split at e
    · rename_i hl
      cases e1 : atI z.cps.toList i with
      | none => rw [e1] at e; cases e
      | some c =>
        rw [e1] at e; cases e
        exact .inl (.inr (.inr ⟨z, i, c, hx.str, hy.int, by rw [sizeLine_eq]; exact hl, e1, q _ _ (.fz (.str _))⟩))
    · cases e
theorem sx_item {a b : Expr} {ca cb : CE} {pos : Pos} (hu : X.A.units + 65 < cLine) (ha : SX X a ca) (hb : SX X b cb) (hs : PlainIx b := by exact fun _ _ => rfl) : SX X (.Subscript a b pos) (cBin opIx ca cb) := sx_ix (ix_any hu) (ix_ok X.K) ha hb hs
/-- a part of a slice -/
abbrev CO := Rho → R (Option Int)
abbrev GotO (X : Cx) (L : L2.St) (W : WX) (σ : L2.St) (G B : Hp) (r : R (Option Int)) (Q : Option Int → Hp → Prop) : Prop := Got X L W σ G B (fun b _ _ _ b' => b' = b) r Q
def tO (X : Cx) (W : WX) (c : CO) : TO := fun σ H Q => ∃ (L : L2.St) (ρ : Rho) (G B : Hp), Rel X.K L B σ ρ G H ∧ GotO X L W σ G B (c ρ) Q
def SO (X : Cx) (e : Option Expr) (c : CO) : Prop := ∀ W : WX, Takes X W → PO X e (tO X W c)
theorem POimp {e : Option Expr} {t t' : TO} (h : PO X e t) (w : ∀ σ H Q, t' σ H Q → t σ H Q) : PO X e t' := ⟨fun pins s σ H Q I q => h.run pins s σ H Q I (w _ _ _ q)⟩
def cNoPart : CO := fun ρ => .ok none ρ
def cPart (c : CE) : CO := fun ρ => (c ρ).bind fun p ρ1 => match look p ρ1 with
  | some (.int i) => .ok (some i) ρ1
  | _ => .bad
theorem so_none : SO X none cNoPart := fun W tk => POimp po_none (by
  rintro σ H Q ⟨L, ρ, G, B, rel, h⟩
  exact h none H G rel .refl rfl)
theorem so_some {e : Expr} {c : CE} (h : SX X e c) : SO X (some e) (cPart c) := fun W tk => POimp (po_some (h W tk)) (by
  rintro σ H Q ⟨L, ρ, G, B, rel, h⟩
  refine ⟨L, ρ, G, B, rel, (Got.bind h).mono ?_⟩
  rintro x H1 ⟨p, ρ1, G1, _, rel1, _, fx1, h1⟩
  split at h1
  · rename_i i e1
    exact ⟨i, (fx1.look rel1 e1).int, h1 (some i) H1 G1 rel1 .refl rfl⟩
  · exact h1.elim)
theorem Got.bindO {γ δ : Type} {L : L2.St} {W : WX} {σ : L2.St} {G B : Hp} {P : γ → Rho → Hp → Hp → δ → Prop} {r : R (Option Int)} {k : Option Int → Rho → R γ} {Q : δ → Hp → Prop} (h : Got X L W σ G B P (r.bind k) Q) :
    GotO X L W σ G B r (fun b H1 => ∃ (ρ1 : Rho) (G1 : Hp), r = .ok b ρ1 ∧ Rel X.K L B σ ρ1 G1 H1 ∧ Ext B G G1 ∧ Got X L W σ G1 B P (k b ρ1) fun d H2 => Q d H2) := by
  cases r with
  | ok p ρ1 =>
    intro v H' G' rel ext ok
    subst ok
    exact ⟨ρ1, G', rfl, rel, ext, Got.shift ext h⟩
  | exc x ρ' => exact h
  | bad => exact h
def cutL {α : Type} (xs : List α) (lo hi : Option Int) : List α := (xs.drop (HT.sIx xs.length 0 lo)).take (HT.sIx xs.length xs.length hi - HT.sIx xs.length 0 lo)
def opSl (x : D) (lo hi : Option Int) : Option Pl := match x with
  | .list a => some (.tmp (.list (cutL a lo hi)))
  | .tuple a => some (.val (.tuple (cutL a lo hi)))
  | _ => none
def cSl (a : CE) (lo hi : CO) : CE := fun ρ => (a ρ).bind fun p ρ1 => (lo ρ1).bind fun l ρ2 => (hi ρ2).bind fun u ρ3 => match look p ρ3 with
  | some x => .ofOpt (opSl x l u) ρ3
  | none => .bad
def rSlX (K : PySem.W.Frag) : V → Option Int → Option Int → Hp → VK → Prop := fun x lo hi H Q => rSlL K x lo hi H Q ∨ rSlK K x lo hi H Q
theorem sl_any : SlR X (rSlX X.K) := sl_list.or sl_tupK
theorem FzA.cut {K : PySem.W.Frag} {G : Hp} {vs : List V} {ds : List D} (h : FzA K G vs ds) (lo hi : Option Int) : FzA K G (cutV vs lo hi) (cutL ds lo hi) := by
  unfold cutV cutL
  rw [h.length]
  exact (h.drop _).take _
theorem cut_whole {xs : List D} {lo hi : Option Int} (h1 : HT.sIx xs.length 0 lo = 0) (h2 : HT.sIx xs.length xs.length hi = xs.length) : cutL xs lo hi = xs := by
  unfold cutL
  rw [h1, h2]; simp
theorem sx_slice {e : Expr} {lo hi : Option Expr} {c : CE} {cl cu : CO} {pos p2 : Pos} (he : SX X e c) (hl : SO X lo cl) (hu : SO X hi cu) : SX X (.Subscript e (.Slice lo hi none p2) pos) (cSl c cl cu) := fun W tk =>
  PEimp (pe_slice sl_any (he W tk) (hl W tk) (hu W tk)) (by
  rintro σ H Q ⟨L, ρ, G, B, rel, h⟩
  refine ⟨L, ρ, G, B, rel, (Got.bind h).mono ?_⟩
  rintro x H1 ⟨p, ρ1, G1, _, rel1, _, fx1, h1⟩
  refine ⟨L, ρ1, G1, B, rel1, (Got.bindO h1).mono ?_⟩
  rintro l H2 ⟨ρ2, G2, _, rel2, x2, h2⟩
  refine ⟨L, ρ2, G2, B, rel2, (Got.bindO h2).mono ?_⟩
  rintro u H3 ⟨ρ3, G3, _, rel3, x3, h3⟩
  cases e1 : look p ρ3 with
  | none => simp only [e1] at h3; exact h3.elim
  | some d =>
    simp only [e1] at h3
    have vw := ((fx1.mono x2.same).mono x3.same).look rel3 e1
    cases d with
    | list a =>
      obtain ⟨q, xs, rfl, g1, g2⟩ := vw.lst rel3.sub
      exact .inl ⟨q, xs, rfl, .inl g1, fun p hp => Got.done rel3 h3 (.lst hp (g2.cut l u))⟩
    | tuple a =>
      obtain ⟨q, xs, rfl, g0, g1, g2⟩ := vw.tup rel3.sub
      refine .inr ⟨q, xs, rfl, g1, fun hw => ?_, fun _ p o hp hd => Got.done rel3 h3 (.tup hp hd (g2.cut l u))⟩
      refine Got.done rel3 h3 ?_
      rw [g2.length] at hw
      rw [cut_whole hw.1 hw.2]
      exact .fz (.tup g0 g2)
    | _ => exact h3.elim)

end
end TN
namespace PySem.W
open PySem PySem.Spec PySem.Calls PyProof.Rows
section
variable {prog : Program} {w : World} {A : Around} {E : Value → Shared → Prop} {s : Shared} {K : Frag} {x D : Addr} {ox : Obj}
theorem findObj_dataX {C : Addr} {od : Option Obj} {name : Str} {a g : Value} (hc : (clsIn K C).isSome = true) (ha : findIn K (.ref C) name = some (some a)) (hg : specialIn K a "__get__" = some (some g)) (ht : takesIn K a = some true) : findObj K C od name = some (.bind g a) := by
  obtain ⟨cd, hc⟩ := Option.isSome_iff_exists.mp hc
  unfold findObj
  rw [hc, Option.bind_some, ha, Option.bind_some]
  simp [hg, ht]
theorem kin_classX {od : Option Obj} {Q : Option Value → Shared → Prop} (hga : findIn K (.ref D) "__getattribute__" = some (some (.builtin "BaseException.__getattribute__"))) (hgt : findIn K (.ref D) "__getattr__" = some none) (hsub : subIn K (.ref D) (.type "BaseException") = some true)
    (hdct : hasDictIn K D = true) (ha : findIn K (.ref D) "__class__" = some (some (.builtin "object.__class__")))
    (hn : specialIn K (.builtin "object.__class__") "__get__" = some (some (.builtin "getset_descriptor.__get__"))) (htk : takesIn K (.builtin "object.__class__") = some true) (hm : mroIn K D (.type "object") = some true)
    (X : K.In s.heap) (I : InstAt s.heap x ox D od) (h : Q (some (.ref D)) { s with toks := s.toks + 1 }) : wpAny (model prog w) A (getAttr? (.ref x) "__class__") Q E s := by
  have hf : findObj K D od "__class__" = some (.bind (.builtin "getset_descriptor.__get__") (.builtin "object.__class__")) := findObj_dataX (by obtain ⟨cd, hc, _⟩ := any_some hdct; rw [hc]; rfl) ha hn htk
  obtain ⟨hp, g, d, t, os⟩ := s
  have L0 := I.type (M := model prog w)
  have L1 := looks_findIn (M := model prog w) X hga
  have L2 := looks_findIn (M := model prog w) X hgt
  have L3 := looks_find (M := model prog w) X I hf
  have sub : Looks (model prog w) hp (isInstance (.ref x) (.type "BaseException")) true := L0.andThen (looks_subIn X hsub)
  have hx0 : (false && onTheHeap (Value.builtin "BaseException.__getattribute__")) = false := rfl
  have hx2 : (Value.builtin "BaseException.__getattribute__" == Value.builtin "object.__getattribute__") = false := by decide +kernel
  have hx1 : (onTheHeap (Value.ref D) && Value.builtin "BaseException.__getattribute__" == Value.builtin "object.__getattribute__") = false := by rw [hx2]; rfl
  unfold getAttr? getAttrBy? getAttrBy
  refine wpAny_bind (wpAny_mkText (wpAny_bind (wpAny_attempt (wpAny_holding (wpAny_bind (L0.at (wpAny_bind (L1.at ?_))))))))
  show wpAny _ _ (if (onTheHeap (Value.ref D) && Value.builtin "BaseException.__getattribute__" == Value.builtin "object.__getattribute__") = true then _ else _) _ _ _
  rw [hx1, if_neg Bool.false_ne_true]
  unfold getAttrByItsOwn hookBefore
  refine wpAny_bind ?_
  rw [if_pos (show onTheHeap (Value.ref D) = true from rfl)]
  refine L2.at ?_
  refine wpAny_bind (wpAny_attempt (wpAny_holding ?_))
  unfold callGetattribute
  rw [hx0, if_neg Bool.false_ne_true]
  unfold boundAndCalled
  rw [PySem.F.excAttr_ValueError.ga.bind (.ref x)]
  refine wpAny_bind (wpAny_pure ?_)
  show wpAny _ _ (call (.builtin "BaseException.__getattribute__") [.ref x, .str "__class__" t]) _ _ _
  refine wpAny_call (codeAny_call_builtin PySem.F.excAttr_ValueError.ga.plain PySem.F.entry_bexc_ga ?_)
  refine @check_slot (model prog w) _ _ ⟨hp, g, d, t + 1, os⟩ "BaseException.__getattribute__" "BaseException" "__getattribute__" (.ref x) [.str "__class__" t] [] _ (by decide +kernel) (by decide +kernel) sub (PySem.F.args_bexc_ga (.ref x) (.str "__class__" t)) ?_
  unfold Builtin.«object.__getattribute__»
  refine wpAny_bind (wpAny_of_eq (a := ((Value.ref x : Value), [Value.str "__class__" t])) (by first | rfl | (simp only [slotArgs]; rfl)) ?_)
  refine wpAny_bind (wpAny_pure (wpAny_bind (L0.at (wpAny_bind (L3.at ?_)))))
  show wpAny _ _ (holding [Value.builtin "object.__class__"] (call (.builtin "getset_descriptor.__get__") [.builtin "object.__class__", .ref x, .ref D]) >>= ret) _ _ _
  refine wpAny_bind (wpAny_holding (wpAny_call (class_get (s := ⟨hp, g, d, t + 1, os⟩) (ox := ox) (od := od) X I hm ?_)))
  refine wpAny_pure ?_
  show wpAny _ _ (handedOut (.ref D)) _ _ _
  rw [handedOut_of (v := .ref D) rfl]
  first
    | exact wpAny_pure (wpAny_pure h)
    | exact wpAny_pure h
    | exact wpAny_pure (wpAny_bind (wpAny_pure (wpAny_pure h)))
theorem kitx_X {od : Option Obj} (hga : findIn K (.ref D) "__getattribute__" = some (some (.builtin "BaseException.__getattribute__"))) (hgt : findIn K (.ref D) "__getattr__" = some none) (hsub : subIn K (.ref D) (.type "BaseException") = some true) (hdct : hasDictIn K D = true) (ha : findIn K (.ref D) "__class__" = some (some (.builtin "object.__class__")))
    (hn : specialIn K (.builtin "object.__class__") "__get__" = some (some (.builtin "getset_descriptor.__get__"))) (htk : takesIn K (.builtin "object.__class__") = some true) (hm : mroIn K D (.type "object") = some true) :
    KitX K (.ref x) (.ref D) (fun h => InstAt h x ox D od) where
  ty := fun _ _ _ I => I.type
  it := fun _ _ X _ => by
    obtain ⟨cdD, hcD, _⟩ := any_some hdct
    unfold clsIn at hcD
    split at hcD
    · rename_i c' d' cd' sl' ho
      intro A' Q' E' s' k q
      unfold isType loadHead
      exact wpAny_bind (wpAny_loadPart (k _ _ (X _ _ ho)) (wpAny_pure q))
    · cases hcD
  ne := fun h tp dd its n sl X htp => by
    obtain ⟨cdD, hcD, _⟩ := any_some hdct
    refine Bool.eq_false_iff.mpr fun q => ?_
    have e : D = tp := Value.ref.inj (beq_iff_eq.mp q)
    subst e
    unfold clsIn at hcD
    split at hcD
    · rename_i c' d' cd' sl' ho
      have z := (X _ _ ho).symm.trans htp
      cases z
    · cases hcD
  ca := fun X I k => kin_classX hga hgt hsub hdct ha hn htk hm X I k
end
end PySem.W
namespace TN
open PySem PySem.Spec PyProof.Rows L2
section
variable {X : Cx}
/-! ### in, not in -/
def seqOf : D → Option (List D)
  | .list ds => some ds
  | .tuple ds => some ds
  | _ => none
def opIn (x y : D) : Option Pl := match y with
  | .dict es => (dGet es x).map fun o => .val (.bool o.isSome)
  | y => match seqOf y with
    | some ds => if SeqAt.shaped x = true ∧ SeqAt.shaped y = true then some (.val (.bool (ds.any fun z => PyData.eqv z x))) else none
    | none => none
def opNotIn (x y : D) : Option Pl := match y with
  | .dict es => (dGet es x).map fun o => .val (.bool (!o.isSome))
  | y => match seqOf y with
    | some ds => if SeqAt.shaped x = true ∧ SeqAt.shaped y = true then some (.val (.bool (!(ds.any fun z => PyData.eqv z x)))) else none
    | none => none
def rInB (K : PySem.W.Frag) (n : Bool) : R2 := fun x y H Q => ∃ (d e : D) (ds : List D), Dp K H x d ∧ Dp K H y e ∧ seqOf e = some ds ∧ SeqAt.shaped d = true ∧ SeqAt.shaped e = true ∧ Q (.bl (if n = true then !(ds.any fun z => PyData.eqv z d) else ds.any fun z => PyData.eqv z d)) H
def rInA (K : PySem.W.Frag) (n : Bool) : R2 := fun x y H Q => rInB K n x y H Q ∨ rDIn n x y H Q
theorem op_inB (hu : X.A.units + 65 < cLine) : OpR X (compareOp .In) (rInB X.K false) := by
  intro pins s σ H x y v u Q I rx ry h
  obtain ⟨d, e, ds, hd, he, hs, sd, se, q⟩ := h
  obtain ⟨as, r1⟩ := Dp.reads I d x v hd rx
  obtain ⟨bs, r2⟩ := Dp.reads I e y u he ry
  cases e <;> simp only [seqOf] at hs <;> try (cases hs; done)
  · cases hs
    exact SeqAt.in_list_reads r2 r1 (SeqAt.canLay_of_shaped se) (SeqAt.canLay_of_shaped sd) (PyProof.Rows.room_in_shaped sd hu) ⟨.bl _, H, I, rfl, q⟩
  · cases hs
    exact SeqAt.in_tuple_reads r2 r1 (SeqAt.canLay_of_shaped se) (SeqAt.canLay_of_shaped sd) (PyProof.Rows.room_in_shaped sd hu) ⟨.bl _, H, I, rfl, q⟩
theorem op_notInB (hu : X.A.units + 65 < cLine) : OpR X (compareOp .NotIn) (rInB X.K true) := by
  intro pins s σ H x y v u Q I rx ry h
  obtain ⟨d, e, ds, hd, he, hs, sd, se, q⟩ := h
  obtain ⟨as, r1⟩ := Dp.reads I d x v hd rx
  obtain ⟨bs, r2⟩ := Dp.reads I e y u he ry
  cases e <;> simp only [seqOf] at hs <;> try (cases hs; done)
  · cases hs
    exact SeqAt.notIn_list_reads r2 r1 (SeqAt.canLay_of_shaped se) (SeqAt.canLay_of_shaped sd) (PyProof.Rows.room_in_shaped sd hu) ⟨.bl _, H, I, rfl, q⟩
  · cases hs
    exact SeqAt.notIn_tuple_reads r2 r1 (SeqAt.canLay_of_shaped se) (SeqAt.canLay_of_shaped sd) (PyProof.Rows.room_in_shaped sd hu) ⟨.bl _, H, I, rfl, q⟩
theorem op_inA (hu : X.A.units + 65 < cLine) : OpR X (compareOp .In) (rInA X.K false) := (op_inB hu).or (op_inDict (by omega))
theorem op_notInA (hu : X.A.units + 65 < cLine) : OpR X (compareOp .NotIn) (rInA X.K true) := (op_notInB hu).or (op_notInDict (by omega))
theorem in_ok (K : PySem.W.Frag) : OpOk K (rInA K false) opIn := by
  intro G H x y dx dy p Q s hx hy e q
  unfold opIn at e
  split at e
  · rename_i es
    cases hd : dGet es dx with
    | none => rw [hd] at e; cases e
    | some o =>
      rw [hd] at e; cases e
      obtain ⟨a, ov, rfl, g, h⟩ := hy.get s hx hd
      exact .inr ⟨a, ov, rfl, g, by rw [if_neg Bool.false_ne_true, isSome_of h]; exact q _ _ (.fz (.bl _))⟩
  · cases hs : seqOf dy with
    | none => rw [hs] at e; cases e
    | some ds =>
      rw [hs] at e
      simp only at e
      split at e
      · rename_i h
        cases e
        exact .inl ⟨dx, dy, ds, hx.dp s (SeqAt.canLay_of_shaped h.1), hy.dp s (SeqAt.canLay_of_shaped h.2), hs, h.1, h.2, q _ _ (.fz (.bl _))⟩
      · cases e
theorem notIn_ok (K : PySem.W.Frag) : OpOk K (rInA K true) opNotIn := by
  intro G H x y dx dy p Q s hx hy e q
  unfold opNotIn at e
  split at e
  · rename_i es
    cases hd : dGet es dx with
    | none => rw [hd] at e; cases e
    | some o =>
      rw [hd] at e; cases e
      obtain ⟨a, ov, rfl, g, h⟩ := hy.get s hx hd
      exact .inr ⟨a, ov, rfl, g, by rw [if_pos rfl, isSome_of h]; exact q _ _ (.fz (.bl _))⟩
  · cases hs : seqOf dy with
    | none => rw [hs] at e; cases e
    | some ds =>
      rw [hs] at e
      simp only at e
      split at e
      · rename_i h
        cases e
        exact .inl ⟨dx, dy, ds, hx.dp s (SeqAt.canLay_of_shaped h.1), hy.dp s (SeqAt.canLay_of_shaped h.2), hs, h.1, h.2, q _ _ (.fz (.bl _))⟩
      · cases e
theorem u65 {k : Nat} (hr : Room k X.A) : X.A.units + 65 < cLine := by
  have := hr.un; omega

/-! ### chains: a op b op c -/
def cChain (f g : D → D → Option Pl) (a b c : CE) : CE := fun ρ => (a ρ).bind fun p ρ1 => (b ρ1).bind fun q ρ2 => match look p ρ2, look q ρ2 with
  | some x, some y => match f x y with
    | some (.val (.bool true)) => (c ρ2).bind fun r ρ3 => match look q ρ3, look r ρ3 with
      | some y, some z => .ofOpt (g y z) ρ3
      | _, _ => .bad
    | some (.val (.bool false)) => .ok (.val (.bool false)) ρ2
    | _ => .bad
  | _, _ => .bad
theorem chain_imp {W : WX} {r r' : R2} {f g : D → D → Option Pl} {ca cb cc : CE} (hr : OpOk X.K r f) (hr' : OpOk X.K r' g) : ∀ (σ : L2.St) (H : Hp) (Q : VK), tX X W (cChain f g ca cb cc) σ H Q → tChain r r' (tX X W ca) (tX X W cb) (tX X W cc) σ H Q := by
  rintro σ H Q ⟨L, ρ, G, B, rel, h⟩
  refine ⟨L, ρ, G, B, rel, (Got.bind h).mono ?_⟩
  rintro x H1 ⟨p, ρ1, G1, _, rel1, _, fx1, h1⟩
  refine ⟨L, ρ1, G1, B, rel1, (Got.bind h1).mono ?_⟩
  rintro y H2 ⟨q, ρ2, G2, _, rel2, ext2, fx2, h2⟩
  cases e1 : look p ρ2 with
  | none => simp only [e1] at h2; exact h2.elim
  | some dx =>
    cases e2 : look q ρ2 with
    | none => simp only [e1, e2] at h2; exact h2.elim
    | some dy =>
      simp only [e1, e2] at h2
      have ok := hr G2 H2 x y dx dy
      cases e3 : f dx dy with
      | none => simp only [e3] at h2; exact h2.elim
      | some pl =>
        simp only [e3] at h2
        refine ok pl _ rel2.sub ((fx1.mono ext2.same).look rel2 e1) (fx2.look rel2 e2) e3 fun v H' ps => ?_
        split at h2
        · rename_i heq
          cases heq
          cases ps with
          | fz hv =>
            cases hv
            refine ⟨true, rfl, ?_⟩
            rw [if_pos rfl]
            refine ⟨L, ρ2, G2, B, rel2, (Got.bind h2).mono ?_⟩
            rintro z H3 ⟨r3, ρ3, G3, _, rel3, ext3, fx3, h3⟩
            cases e4 : look q ρ3 with
            | none => simp only [e4] at h3; exact h3.elim
            | some dy' =>
              cases e5 : look r3 ρ3 with
              | none => simp only [e4, e5] at h3; exact h3.elim
              | some dz =>
                simp only [e4, e5] at h3
                cases e6 : g dy' dz with
                | none => simp only [e6] at h3; exact h3.elim
                | some pl =>
                  simp only [e6] at h3
                  exact hr' G3 H3 y z dy' dz pl Q rel3.sub ((fx2.mono ext3.same).look rel3 e4) (fx3.look rel3 e5) e6 fun v H' ps => Got.done rel3 h3 ps
        · rename_i heq
          cases heq
          cases ps with
          | fz hv =>
            cases hv
            refine ⟨false, rfl, ?_⟩
            rw [if_neg Bool.false_ne_true]
            exact h2 _ H2 G2 rel2 .refl (.bl false)
        · exact h2.elim
theorem st_chain {a b c : Expr} {ca cb cc : CE} {pos : Pos} {op op' : CmpOp} {r r' : R2} {f g : D → D → Option Pl} (ho : OpR X (compareOp op) r) (hr : OpOk X.K r f) (ho' : OpR X (compareOp op') r') (hr' : OpOk X.K r' g) (ha : SX X a ca) (hb : SX X b cb) (hc : SX X c cc)
    (hm : lastMarks [op, op'] [b, c] = false := by with_unfolding_all rfl) : ST X (.Compare a [op, op'] [b, c] pos) (cTst (cChain f g ca cb cc)) := fun W tk => PTimp (pt_chain ho ho' (ha W tk) (hb W tk) (hc W tk) hm) fun σ H Q h => chain_imp hr hr' σ H _ (tst_imp σ H Q h)

/-! ### isinstance -/
def tyName : D → String
  | .none => "NoneType" | .bool _ => "bool" | .int _ => "int" | .str _ => "str" | .list _ => "list" | .tuple _ => "tuple" | .dict _ => "dict"
def isTy (T : String) (d : D) : Bool := (kitB (tyName d) T).getD false
def opIsi (T : String) (d : D) : Option Pl := if (kitB (tyName d) T).isSome = true ∧ (exTy.contains T || !(isX d || isOb d)) = true then some (.val (.bool (isTy T d))) else none
theorem Vw.tyX {K : PySem.W.Frag} {G H : Hp} {v : V} {d : D} (s : Same G H) (hX : (isX d || isOb d) = false) (h : Vw K G H v d) : TyX K H v (.type (tyName d)) ∨ ∃ a rs, v = .ref a ∧ H a = some (dtO a rs) ∧ tyName d = "dict" := by
  rcases h with h | ⟨a, rfl, h⟩
  · cases h with
    | non => exact .inl (.base .non)
    | bl b => exact .inl (.base (.bl b))
    | int i => exact .inl (.base (.int i))
    | str x => exact .inl (.base (.str x))
    | lst h _ =>
      rcases Same.rd s h with e | ⟨o, e⟩
      · exact .inl (.base (.lst e))
      · exact .inl (.base (.frz e))
    | tup h _ =>
      rcases Same.tp (K := K) s (sqt h) with (e | ⟨o, e⟩) | ⟨o, its, n, hk, hc, _⟩
      · exact .inl (.base (.tup e))
      · exact .inl (.fTuple e)
      · exact .inl (.kTuple hk hc)
    | dK e _ => exact .inl (.base (.dK (s _ _ e)))
    | dT e _ => exact .inr ⟨_, _, rfl, s _ _ e, rfl⟩
    | ex => cases hX
    | ob => cases hX
  · cases h with
    | lst e _ => exact .inl (.base (.lst e))
    | dK e _ => exact .inl (.base (.dK e))
    | dT e _ => exact .inr ⟨_, _, rfl, e, rfl⟩
    | ob => cases hX
/-- isinstance(e, c), e a caught exception -/
structure ExcX (K : PySem.W.Frag) (C : Addr) : Prop where
  ga : PySem.W.findIn K (.ref C) "__getattribute__" = some (some (.builtin "BaseException.__getattribute__"))
  gg : PySem.W.findIn K (.ref C) "__getattr__" = some none
  hs : PySem.W.subIn K (.ref C) (.type "BaseException") = some true
  hd : PySem.W.hasDictIn K C = true
  ha : PySem.W.findIn K (.ref C) "__class__" = some (some (.builtin "object.__class__"))
  hn : PySem.W.specialIn K (.builtin "object.__class__") "__get__" = some (some (.builtin "getset_descriptor.__get__"))
  ht : PySem.W.takesIn K (.builtin "object.__class__") = some true
  hm : PySem.W.mroIn K C (.type "object") = some true
theorem excX {K : PySem.W.Frag} {C : Addr} (h : exC K C = true) : ExcX K C := by
  unfold exC at h
  obtain ⟨h1, h⟩ := He.ba h
  obtain ⟨h2, h⟩ := He.ba h
  obtain ⟨h3, h⟩ := He.ba h
  obtain ⟨h4, h⟩ := He.ba h
  obtain ⟨h5, h⟩ := He.ba h
  obtain ⟨h6, h⟩ := He.ba h
  obtain ⟨h7, h8⟩ := He.ba h
  exact ⟨of_decide_eq_true h1, of_decide_eq_true h2, of_decide_eq_true h3, h4, of_decide_eq_true h5, of_decide_eq_true h6, of_decide_eq_true h7, of_decide_eq_true h8⟩
/-- a caught exception in the abstract heap -/
def ExAt (K : PySem.W.Frag) (H : Hp) (a : Addr) (cls : Str) : Prop := ∃ (oe : Obj) (d : Option Addr), H a = some (exHO a oe) ∧ ExO K cls d oe ∧ ∀ dd, d = some dd → ∃ fs, H dd = some (.xd fs)
def rIsX (K : PySem.W.Frag) : List V → Hp → VK → Prop := fun xs H Q => ∃ (a : Addr) (cls : Str) (c : V) (u : Value) (b : Bool), xs = [.ref a, c] ∧ ClsV c u ∧ ExAt K H a cls ∧ PySem.W.kitOne K (.ref (He.ga K cls)) u = some b ∧ Q (.bl b) H
theorem ExAt.inst {P : Program} {w : World} {K : PySem.W.Frag} {H : Hp} {h : Heap} {a : Addr} {cls : Str} (hok : HOk P w H h) (x : ExAt K H a cls) : ∃ (oe : Obj) (od : Option Obj), PySem.W.InstAt h a oe (He.ga K cls) od := by
  obtain ⟨oe, d, h1, ⟨h2, h3, ⟨vs, h4⟩, _, _⟩, h5⟩ := x
  have h6 : ObjOk P w H h a (exHO a oe) := hok a _ h1
  obtain ⟨h7, _, _⟩ := h6
  have h7 : h.get? a = some oe := h7
  cases d with
  | none => exact ⟨oe, none, h7, h2, by unfold PySem.W.notCls; rw [h4] <;> rfl, by rw [h3]; trivial⟩
  | some dd =>
    obtain ⟨fs, h8⟩ := h5 dd rfl
    obtain ⟨mA, hns, _⟩ := (show ObjOk P w H h dd (.xd fs) from hok dd _ h8)
    obtain ⟨od, ho, _⟩ := L2.lookIn_ns hns
    exact ⟨oe, some od, h7, h2, by unfold PySem.W.notCls; rw [h4] <;> rfl, by rw [h3]; exact ho⟩
theorem call_isX {X : Cx} : CallR X (.builtin "isinstance") (rIsX X.K) := by
  intro pins s σ H xs us Q I r h
  obtain ⟨a, cls, c, u, b, rfl, k, x, e, q⟩ := h
  obtain ⟨u1, u2, rfl, r1, r2⟩ := vals2 r
  have e2 := k.eq r2
  subst e2
  cases (show u1 = Value.ref a from r1)
  obtain ⟨oe, od, J⟩ := x.inst I.hok
  obtain ⟨_, _, _, ⟨_, _, _, c1, _⟩, _⟩ := x
  have C := excX c1
  exact PySem.W.kia_one (PySem.W.kitx_X C.ga C.gg C.hs C.hd C.ha C.hn C.ht C.hm) I.kIn J e (fun z => nomatch z) fun tk => ⟨.bl b, H, I.tok tk, rfl, q⟩
theorem Vw.exAt {K : PySem.W.Frag} {G H : Hp} {v : V} {d : D} (s : Same G H) (hX : isX d = true) (h : Vw K G H v d) : ∃ (a : Addr) (cls : Str) (ds : List (Str × D)), v = .ref a ∧ d = exD cls ds ∧ ExAt K H a cls := by
  rcases h with h | ⟨a, rfl, h⟩
  · cases h with
    | non => cases hX
    | bl b => cases hX
    | int i => cases hX
    | str x => cases hX
    | lst h _ => cases hX
    | tup h _ => cases hX
    | dK e x =>
      cases x with
      | nil => cases hX
      | cons a b => rename_i k _ _ _ _; cases k <;> cases hX
    | dT e x => cases hX
    | ex h1 h2 h3 h4 h5 => exact ⟨_, _, _, rfl, rfl, _, _, s _ _ h1, h2, fun dd e => ⟨_, s _ _ (h3 dd e)⟩⟩
    | ob => cases hX
  · cases h with
    | lst h _ => cases hX
    | dK e x =>
      cases x with
      | nil => cases hX
      | cons a b => rename_i k _ _ _ _; cases k <;> cases hX
    | dT e x => cases hX
    | ob => cases hX
theorem Vw.obAt {K : PySem.W.Frag} {G H : Hp} {v : V} {d : D} (s : Same G H) (hX : isOb d = true) (h : Vw K G H v d) : ∃ (a dx : Addr) (cls : Str) (fs : List (Str × V)) (ds : List (Str × D)), v = .ref a ∧ d = obD cls ds ∧ H a = some (.ins (He.ga K cls) dx fs) ∧ ObK K (He.ga K cls) ∧ FzN K G fs ds := by
  rcases h with h | ⟨a, rfl, h⟩
  · cases h with
    | non => cases hX
    | bl b => cases hX
    | int i => cases hX
    | str x => cases hX
    | lst h _ => cases hX
    | tup h _ => cases hX
    | dK e x =>
      cases x with
      | nil => cases hX
      | cons a b => rename_i k _ _ _ _; cases k <;> cases hX
    | dT e x => cases hX
    | ex => cases hX
    | ob h1 h2 h3 => exact ⟨_, _, _, _, _, rfl, rfl, s _ _ h1, h2, h3⟩
  · cases h with
    | lst h _ => cases hX
    | dK e x =>
      cases x with
      | nil => cases hX
      | cons a b => rename_i k _ _ _ _; cases k <;> cases hX
    | dT e x => cases hX
    | ob h1 h2 h3 => exact ⟨_, _, _, _, _, rfl, rfl, h1, h2, h3⟩
theorem exT_one {K : PySem.W.Frag} {C : Addr} {T : String} (h : exT K C = true) (hT : exTy.contains T = true) : PySem.W.kitOne K (.ref C) (.type T) = some false := by
  unfold exT at h
  exact of_decide_eq_true (List.all_eq_true.mp h T (by simpa using hT))
theorem kitB_dict {T : String} (hT : exTy.contains T = true) : kitB "dict" T = some false := by
  have h : T ∈ exTy := by simpa using hT
  unfold exTy at h
  simp only [List.mem_cons, List.not_mem_nil, or_false] at h
  rcases h with rfl | rfl | rfl | rfl | rfl <;> rfl
theorem sx_isi {x : Expr} {c : CE} {T : String} {TS : Str} {p p2 pos : Pos} (hg : Gl X "isinstance") (hm : X.mg "isinstance" = none) (hg2 : Gl X TS) (hm2 : X.mg TS = none) (hv : bootBuiltins TS = some (.type T)) (ha : SX X x c)
    (hn : TS ≠ "__name__" := by decide) (hd : (TS == ("__debug__" : Str)) = false := by decide)
    (hs : starEach [x, .Name TS p2] X.env = (false, eval x X.env) :: starEach [.Name TS p2] X.env := by rfl) (hpl : (backTo pos (starEach [.Name TS p2] X.env)).any (·.1) = false := by rfl) :
    SX X (.Call (.Name "isinstance" p) [x, .Name TS p2] [] pos) (cUn (opIsi T) c) := fun W tk =>
  PEimp (pe_callB (CallR.or (CallR.or call_isi call_isiD) call_isX) hg hm boot_isinstance (pa_cons (ha W tk) (pa_cons (pe_bltn (v := .ty T) hg2 hm2 hv rfl hn hd) pa_nil) hs) (by decide) (by decide) hs hpl) (by
  rintro σ H Q ⟨L, ρ, G, B, rel, h⟩
  refine ⟨L, ρ, G, B, rel, (Got.bind h).mono ?_⟩
  rintro v H1 ⟨q, ρ1, G1, _, rel1, _, fx1, h1⟩
  cases e1 : look q ρ1 with
  | none => simp only [e1] at h1; exact h1.elim
  | some d =>
    simp only [e1] at h1
    unfold opIsi at h1
    cases hk : kitB (tyName d) T with
    | none => simp only [hk] at h1; exact h1.elim
    | some b =>
      have hb : isTy T d = b := by unfold isTy; rw [hk]; rfl
      rw [hb] at h1
      simp only [hk, Option.isSome_some, true_and] at h1
      by_cases hc : (exTy.contains T || !(isX d || isOb d)) = true
      · rw [if_pos hc] at h1
        cases hX : (isX d || isOb d) with
        | false =>
          rcases (fx1.look rel1 e1).tyX rel1.sub hX with z | ⟨a, rs, rfl, z, et⟩
          · exact .inl (.inl ⟨v, .ty T, _, _, b, rfl, .ty T, z, kit_ty hk, Got.done rel1 h1 (.fz (.bl b))⟩)
          · exact .inl (.inr ⟨a, rs, .ty T, _, b, rfl, .ty T, z, by rw [et] at hk; exact kit_ty hk, Got.done rel1 h1 (.fz (.bl b))⟩)
        | true =>
          have hT : exTy.contains T = true := by rw [hX] at hc; simpa using hc
          cases hX2 : isX d with
          | false =>
            rw [hX2, Bool.false_or] at hX
            obtain ⟨a, dx, cls, fs, ds, rfl, rfl, x1, x2, x3⟩ := (fx1.look rel1 e1).obAt rel1.sub hX
            have hk' : kitB "dict" T = some b := hk
            rw [kitB_dict hT] at hk'
            cases hk'
            exact .inl (.inl ⟨.ref a, .ty T, .ref (He.ga X.K cls), _, false, rfl, .ty T, .base (.ins x1 x2.cl x2.ha x2.hn x2.htk x2.hm), exT_one x2.et hT, Got.done rel1 h1 (.fz (.bl false))⟩)
          | true =>
          obtain ⟨a, cls, ds, rfl, rfl, x⟩ := (fx1.look rel1 e1).exAt rel1.sub hX2
          have hk' : kitB "dict" T = some b := hk
          rw [kitB_dict hT] at hk'
          cases hk'
          have x' := x
          obtain ⟨_, _, _, ⟨_, _, _, _, c2⟩, _⟩ := x
          exact .inr ⟨a, cls, .ty T, _, false, rfl, .ty T, x', exT_one c2 hT, Got.done rel1 h1 (.fz (.bl false))⟩
      · rw [if_neg hc] at h1; exact h1.elim)

/-! ### len, abs, max, min, int, sum, list, tuple, str -/
theorem VwA.two {K : PySem.W.Frag} {G H : Hp} {xs : List V} {d e : D} (h : VwA K G H xs [d, e]) : ∃ v u, xs = [v, u] ∧ Vw K G H v d ∧ Vw K G H u e := by
  cases h with
  | cons a b =>
    obtain ⟨u, rfl, q⟩ := b.one
    exact ⟨_, u, rfl, a, q⟩
def dLen (es : List (D × D)) : Nat := match es with
  | (.none, _) :: es => es.length
  | es => es.length
def fLen : List D → Option Pl
  | [.dict ((.bool _, _) :: _)] => none
  | [.dict es] => some (.val (.int (dLen es : Nat)))
  | [.list a] => some (.val (.int a.length))
  | [.tuple a] => some (.val (.int a.length))
  | [.str z] => if z.length ≤ 16777216 then some (.val (.int z.length)) else none
  | _ => none
def rLenB (K : PySem.W.Frag) : List V → Hp → VK → Prop := fun xs H Q => (∃ p ys, xs = [.ref p] ∧ (SqL K H p ys ∨ SqT K H p ys) ∧ Q (.int ys.length) H) ∨ (∃ z, xs = [.str z] ∧ z.length ≤ sizeLine ∧ Q (.int z.length) H)
def rLenK : List V → Hp → VK → Prop := fun xs H Q => ∃ a kvs, xs = [V.ref a] ∧ H a = some (.dK kvs) ∧ Q (.int kvs.length) H
def rLenA (K : PySem.W.Frag) : List V → Hp → VK → Prop := fun xs H Q => rLenB K xs H Q ∨ (rLenK xs H Q ∨ rLenX xs H Q)
theorem cr_lenA : CallR X (.builtin "len") (rLenA X.K) := (call_len_seq.or call_len_str).or (CallR.or call_lenD call_len_dX)
theorem len_ok (K : PySem.W.Frag) : CallOk K (rLenA K) fLen := by
  intro G H xs ds p Q s hx e q
  unfold fLen at e
  split at e
  · cases e
  · rename_i es hne
    cases e
    obtain ⟨v, rfl, hv⟩ := hx.one
    have hE : isE es = false := isE_no fun b x r z => by subst z; exact hne _ _ _ rfl
    rcases hv.dict s hE with ⟨a, kvs, rfl, e1, f⟩ | ⟨a, kvs, es', rfl, e1, f, rfl⟩
    · refine .inr (.inl ⟨a, kvs, rfl, e1, ?_⟩)
      have : dLen es = kvs.length := by
        unfold dLen
        split
        · exact f.nomark.elim
        · exact f.length.symm
      rw [← this]
      exact q _ _ (.fz (.int _))
    · refine .inr (.inr ⟨a, kvs, rfl, e1, fun r hr => (f.kt r hr).mono s, ?_⟩)
      have : dLen ((.none, .none) :: es') = kvs.length := f.length.symm
      rw [← this]
      exact q _ _ (.fz (.int _))
  · cases e
    obtain ⟨v, rfl, hv⟩ := hx.one
    obtain ⟨a, ys, rfl, h1, h2⟩ := hv.lst s
    exact .inl (.inl ⟨a, ys, rfl, .inl (.inl h1), by rw [h2.length]; exact q _ _ (.fz (.int _))⟩)
  · cases e
    obtain ⟨v, rfl, hv⟩ := hx.one
    obtain ⟨a, ys, rfl, _, h1, h2⟩ := hv.tup s
    exact .inl (.inl ⟨a, ys, rfl, .inr h1, by rw [h2.length]; exact q _ _ (.fz (.int _))⟩)
  · split at e
    · rename_i hl
      cases e
      obtain ⟨v, rfl, hv⟩ := hx.one
      exact .inl (.inr ⟨_, by rw [hv.str], by rw [sizeLine_eq]; exact hl, q _ _ (.fz (.int _))⟩)
    · cases e
  · cases e
def fAbs : List D → Option Pl
  | [.int i] => some (.val (.int (if i < 0 then -i else i)))
  | _ => none
def fMax2 : List D → Option Pl
  | [.int i, .int j] => some (.val (.int (if j > i then j else i)))
  | _ => none
def fMin2 : List D → Option Pl
  | [.int i, .int j] => some (.val (.int (if j < i then j else i)))
  | _ => none
theorem max2_ok (K : PySem.W.Frag) : CallOk K (fun xs H Q => ∃ i j, xs = [.int i, .int j] ∧ Q (.int (if j > i then j else i)) H) fMax2 := by
  intro G H xs ds p Q s hx e q
  unfold fMax2 at e
  split at e
  · cases e
    obtain ⟨v, u, rfl, hv, hu⟩ := hx.two
    exact ⟨_, _, by rw [hv.int, hu.int], q _ _ (.fz (.int _))⟩
  · cases e
theorem min2_ok (K : PySem.W.Frag) : CallOk K (fun xs H Q => ∃ i j, xs = [.int i, .int j] ∧ Q (.int (if j < i then j else i)) H) fMin2 := by
  intro G H xs ds p Q s hx e q
  unfold fMin2 at e
  split at e
  · cases e
    obtain ⟨v, u, rfl, hv, hu⟩ := hx.two
    exact ⟨_, _, by rw [hv.int, hu.int], q _ _ (.fz (.int _))⟩
  · cases e
/-- all ints -/
def intsOf : List D → Option (List Int)
  | [] => some []
  | .int i :: r => match intsOf r with
    | some ns => some (i :: ns)
    | none => none
  | _ => none
theorem intsOf_eq : ∀ {ds : List D} {ns : List Int}, intsOf ds = some ns → ds = ns.map PyData.int
  | [], _, h => by cases h; rfl
  | d :: ds, ns, h => by
    cases d <;> simp only [intsOf] at h <;> try (cases h; done)
    cases q : intsOf ds with
    | none => rw [q] at h; cases h
    | some ms =>
      rw [q] at h; cases h
      rw [intsOf_eq q]; rfl
theorem intsOf_map : ∀ ns : List Int, intsOf (ns.map PyData.int) = some ns
  | [] => rfl
  | n :: ns => by simp only [List.map_cons, intsOf, intsOf_map ns]
def seqInts (d : D) : Option (List Int) := match seqOf d with
  | some ds => intsOf ds
  | none => none
/-- a list or tuple of ints -/
def rSeqI (K : PySem.W.Frag) (H : Hp) (a : Addr) (ns : List Int) : Prop := SqL K H a (ns.map V.int) ∨ SqT K H a (ns.map V.int)
theorem Vw.ints {K : PySem.W.Frag} {G H : Hp} {v : V} {d : D} {ns : List Int} (s : Same G H) (h : Vw K G H v d) (e : seqInts d = some ns) : ∃ a, v = .ref a ∧ rSeqI K H a ns := by
  unfold seqInts at e
  cases d <;> simp only [seqOf] at e <;> try (cases e; done)
  · obtain ⟨a, xs, rfl, h1, h2⟩ := h.lst s
    rw [intsOf_eq e] at h2
    rw [h2.ints] at h1
    exact ⟨a, rfl, .inl (.inl h1)⟩
  · obtain ⟨a, xs, rfl, _, h1, h2⟩ := h.tup s
    rw [intsOf_eq e] at h2
    rw [h2.ints] at h1
    exact ⟨a, rfl, .inr h1⟩
def fInt : List D → Option Pl
  | [.int i] => some (.val (.int i))
  | [.bool b] => some (.val (.int (if b = true then 1 else 0)))
  | _ => none
theorem int_ok (K : PySem.W.Frag) : CallOk K (fun xs H Q => (∃ i, xs = [.int i] ∧ Q (.int i) H) ∨ ∃ k, xs = [.bl k] ∧ Q (.int (if k then 1 else 0)) H) fInt := by
  intro G H xs ds p Q s hx e q
  unfold fInt at e
  split at e
  · cases e
    obtain ⟨v, rfl, hv⟩ := hx.one
    exact .inl ⟨_, by rw [hv.int], q _ _ (.fz (.int _))⟩
  · cases e
    obtain ⟨v, rfl, hv⟩ := hx.one
    exact .inr ⟨_, by rw [hv.bool], q _ _ (.fz (.int _))⟩
  · cases e
def fList : List D → Option Pl
  | [.list a] => some (.tmp (.list a))
  | [.tuple a] => some (.tmp (.list a))
  | _ => none
def fTuple : List D → Option Pl
  | [.list a] => some (.val (.tuple a))
  | [.tuple a] => some (.val (.tuple a))
  | _ => none
theorem tuple_ok (K : PySem.W.Frag) : CallOk K (rTupK K) fTuple := by
  intro G H xs ds p Q s hx e q
  unfold fTuple at e
  split at e
  · cases e
    obtain ⟨v, rfl, hv⟩ := hx.one
    obtain ⟨a, ys, rfl, h1, h2⟩ := hv.lst s
    exact ⟨a, ys, rfl, .inl ⟨.inl h1, fun l o hl hd => q _ _ (.tup hl hd h2)⟩⟩
  · cases e
    obtain ⟨v, rfl, hv⟩ := hx.one
    obtain ⟨a, ys, rfl, g1, h1, h2⟩ := hv.tup s
    exact ⟨a, ys, rfl, .inr ⟨h1, q _ _ (.fz (.tup g1 h2))⟩⟩
  · cases e
end
end TN
namespace TN
open PySem PySem.Spec PyProof.Rows L2

/-! ### tuples that stand are frozen -/
structure GrowT (G G2 H : Hp) : Prop where
  sub : Same G G2
  into : Same G2 H
  new : ∀ b, G2 b ≠ none → G b ≠ none ∨ ∃ vs, G2 b = some (.tup vs)
theorem GrowT.refl {G H : Hp} (s : Same G H) : GrowT G G H := ⟨Same.refl _, s, fun _ h => .inl h⟩
theorem Rel.growT {K : PySem.W.Frag} {L : L2.St} {B G G2 H : Hp} {σ : L2.St} {ρ : Rho} (r : Rel K L B σ ρ G H) (g : GrowT G G2 H) : Rel K L B σ ρ G2 H ∧ Ext B G G2 := by
  have e : Ext B G G2 := ⟨g.sub, fun b h => by
    rcases g.new b h with z | z
    · exact .inl z
    · exact .inr (.inr z)⟩
  refine ⟨r.gb e g.into r.base fun i p a h hf hv => ?_, e⟩
  obtain ⟨v, h1, h2⟩ := r.slots i p h
  rw [hv] at h1; cases h1
  obtain ⟨a2, e2, h3, h4, c⟩ := h2.own hf
  cases e2
  refine ⟨?_, fun o e => e⟩
  cases q : G2 a with
  | none => rfl
  | some o =>
    rcases g.new a (by rw [q]; simp) with z | ⟨vs, z⟩
    · exact absurd h3 z
    · exact (c.notTup (g.into _ _ z)).elim
def PostG (K : PySem.W.Frag) (G H : Hp) (v : V) (H' : Hp) (p : Pl) : Prop := ∃ G2, GrowT G G2 H ∧ Post K G2 H v H' p
def CallOkG (K : PySem.W.Frag) (r : List V → Hp → VK → Prop) (f : List D → Option Pl) : Prop := ∀ (G H : Hp) (xs : List V) (ds : List D) (p : Pl) (Q : VK), Same G H → VwA K G H xs ds → f ds = some p → (∀ v H', PostG K G H v H' p → Q v H') → r xs H Q
section
variable {X : Cx} {es : List Expr} {cr : CA} {rc : List V → Hp → VK → Prop} {fc : List D → Option Pl} {x : Str} {p : Pos} {T : String} {e : Expr} {pos : Pos}
theorem fn_impG {W : WX} (hr : CallOkG X.K rc fc) : ∀ (σ : L2.St) (H : Hp) (Q : VK), tX X W (cFn fc cr) σ H Q → tCB rc (tA X W cr) σ H Q := by
  rintro σ H Q ⟨L, ρ, G, B, rel, h⟩
  refine ⟨L, ρ, G, B, rel, (Got.bindA h).mono ?_⟩
  rintro xs H1 ⟨ps, ρ1, G1, _, rel1, _, fx1, h1⟩
  cases e1 : lookA ps ρ1 with
  | none => simp only [e1] at h1; exact h1.elim
  | some ds =>
    simp only [e1] at h1
    cases e2 : fc ds with
    | none => simp only [e2] at h1; exact h1.elim
    | some pl =>
      simp only [e2] at h1
      refine hr G1 H1 xs ds pl Q rel1.sub (fx1.look rel1 e1) e2 fun v H' ⟨G2, g, ps⟩ => ?_
      obtain ⟨r2, x2⟩ := rel1.growT g
      exact Got.done r2 (Got.shift x2 h1) ps
theorem sx_callTyG (hc : CallR X (.type T) rc) (hr : CallOkG X.K rc fc) (hg : Gl X x) (hm : X.mg x = none) (hv : bootBuiltins x = some (.type T)) (ha : SA X (e :: es) cr) (hn : x ≠ "__name__" := by decide) (hdb : (x == ("__debug__" : Str)) = false := by decide)
    (he : starEach (e :: es) X.env = (false, eval e X.env) :: starEach es X.env := by rfl) (hpl : (backTo pos (starEach es X.env)).any (·.1) = false := by rfl) : SX X (.Call (.Name x p) (e :: es) [] pos) (cFn fc cr) := fun W tk =>
  PEimp (pe_callTy hc hg hm hv (ha W tk) hn hdb he hpl) (fn_impG hr)
end
/-! ### list(d) -/
def dKeys (es : List (D × D)) : List D := match es with
  | (.none, _) :: es => es.map (·.1)
  | es => es.map (·.1)
def fListA (ds : List D) : Option Pl := match ds with
  | [.dict ((.bool _, _) :: _)] => none
  | [.dict es] => some (.tmp (.list (dKeys es)))
  | ds => fList ds
def rListS (K : PySem.W.Frag) : List V → Hp → VK → Prop := fun xs H Q => ∃ p ys, xs = [.ref p] ∧ (SqL K H p ys ∨ SqT K H p ys) ∧ ∀ l, H l = none → Q (.ref l) (upd H l (.lst ys))
def rListA (K : PySem.W.Frag) : List V → Hp → VK → Prop := fun xs H Q => rListS K xs H Q ∨ (rListD xs H Q ∨ rListX xs H Q)
theorem cr_listA {X : Cx} (hc : X.calm = true) : CallR X (.type "list") (rListA X.K) := CallR.or call_list_of ((call_list_dK hc).or (call_list_dX hc))
theorem fz_keys {K : PySem.W.Frag} {G : Hp} : ∀ ks : List Key, FzA K G (ks.map kV) (ks.map keyD)
  | [] => .nil
  | .inl i :: ks => .cons (.int i) (fz_keys ks)
  | .inr s :: ks => .cons (.str s) (fz_keys ks)
theorem FzK.keyList {K : PySem.W.Frag} {G : Hp} : ∀ {kvs : List (Key × V)} {es : List (D × D)}, FzK K G kvs es → FzA K G (kvs.map fun kv => kV kv.1) (es.map (·.1))
  | _, _, .nil => .nil
  | _, _, .cons (k := k) _ b => by
    cases k with
    | inl i => exact .cons (.int i) b.keyList
    | inr s => exact .cons (.str s) b.keyList
theorem FzT.keyList {K : PySem.W.Frag} {G : Hp} : ∀ {kvs : List RowT} {es : List (D × D)}, FzT K G kvs es → FzA K G (kvs.map fun r => V.ref r.2.1) (es.map (·.1))
  | _, _, .nil => .nil
  | _, _, .cons (k := k) _ hk _ b => .cons (.tup hk (fz_keys k)) b.keyList
theorem listA_ok (K : PySem.W.Frag) : CallOkG K (rListA K) fListA := by
  intro G H xs ds p Q s hx e q
  have q0 : ∀ v H', Post K G H v H' p → Q v H' := fun v H' h => q v H' ⟨G, .refl s, h⟩
  unfold fListA at e
  split at e
  · cases e
  · rename_i es hne
    cases e
    obtain ⟨v, rfl, hv⟩ := hx.one
    have hE : isE es = false := isE_no fun b x r z => by subst z; exact hne _ _ _ rfl
    rcases hv.dict s hE with ⟨a, kvs, rfl, e1, f⟩ | ⟨a, kvs, es', rfl, e1, f, rfl⟩
    · refine .inr (.inl ⟨a, kvs, rfl, e1, fun l hl => ?_⟩)
      have : dKeys es = es.map (·.1) := by
        unfold dKeys
        split
        · exact f.nomark.elim
        · rfl
      rw [this] at q0
      exact q0 _ _ (.lst hl f.keyList)
    · exact .inr (.inr ⟨a, kvs, rfl, e1, fun r hr => (f.kt r hr).mono s, fun l hl => q0 _ _ (.lst hl f.keyList)⟩)
  · unfold fList at e
    split at e
    · cases e
      obtain ⟨v, rfl, hv⟩ := hx.one
      obtain ⟨a, ys, rfl, h1, h2⟩ := hv.lst s
      exact .inl ⟨a, ys, rfl, .inl (.inl h1), fun l hl => q0 _ _ (.lst hl h2)⟩
    · cases e
      obtain ⟨v, rfl, hv⟩ := hx.one
      obtain ⟨a, ys, rfl, _, h1, h2⟩ := hv.tup s
      exact .inl ⟨a, ys, rfl, .inr h1, fun l hl => q0 _ _ (.lst hl h2)⟩
    · cases e
end TN
namespace TN
open PySem PySem.Spec PyProof.Rows L2

/-! ### sum, min, max of ints in a list or tuple -/
section
variable {prog : Program} {w : World} {A : Around} {E : Value → Shared → Prop} {s : Shared} {l : Addr} {its : List Value} {ns : List Int} {Q : Value → Shared → Prop}
theorem sum_tupRaw (hh : A.handled = none) (hl : IsTup s.heap l its.toArray) (hi : IntsAre its ns)
    (h : ∀ h' tk t', (∀ b o, s.heap.get? b = some o → h'.get? b = some o) → Q (.int ns.sum t') { s with heap := h', toks := tk }) : wpAny (model prog w) A (call (.builtin "sum") [.ref l]) Q E s := by
  obtain ⟨xs, e⟩ := hi.allInts.items
  have hn : numsOf (intItems xs).toList = ns := by rw [← e]; exact hi.numsOf
  rw [nums_intItems] at hn
  rw [e] at hl
  have hlt : l < s.heap.objs.size := by obtain ⟨_, e, _⟩ := hl; exact Heap.lt_size e
  refine call_sum_walkG (wpAny_pyIter_tuple hl ?_)
  refine ⟨_, _, _, _, _, _, numAt xs, rfl, Walks.tuple (A := A.in1) hh _ l (Nat.ne_of_lt hlt) (intItems xs), ⟨⟨_, Heap.get?_push_size _ rfl, rfl, rfl⟩, Heap.IsTuple.push hl _⟩, fun b hb => ?_, (fun _ _ => intItems_at), fun h' tk t' hk => ?_⟩
  · show b < (s.heap.push _).objs.size
    rw [Heap.size_push]
    rcases List.mem_cons.mp hb with rfl | hb
    · exact Nat.lt_succ_self _
    · rcases List.mem_cons.mp hb with rfl | hb
      · exact Nat.lt_succ_of_lt hlt
      · cases hb
  · have := h h' tk t' (fun b o eo => hk b o (fun hmem => by
      rcases List.mem_cons.mp hmem with e1 | hmem
      · exact absurd (e1 ▸ Heap.lt_size eo) (Nat.lt_irrefl _)
      · cases hmem) (Heap.get?_push_of_some _ eo))
    rw [show (intItems xs).size = xs.size by simp [intItems], preSum_eq, List.take_of_length_le (by simp), hn]
    exact this
end
section
variable {X : Cx} {k : Nat}
def fSum : List D → Option Pl
  | [d] => match seqInts d with
    | some ns => some (.val (.int ns.sum))
    | none => none
  | _ => none
def rSumA (K : PySem.W.Frag) : List V → Hp → VK → Prop := fun vs H Q => ∃ (a : Addr) (ns : List Int), vs = [V.ref a] ∧ rSeqI K H a ns ∧ Q (.int ns.sum) H
theorem cr_sumA (hc : X.calm = true) : CallR X (.builtin "sum") (rSumA X.K) := by
  intro pins s σ H vs us Q I r h
  obtain ⟨a, ns, rfl, hs, q⟩ := h
  rw [Vals.ref1 r]
  rcases hs with hs | hs
  · obtain ⟨its, rv, hl, _⟩ := I.list hs
    exact sum_raw (I.ok.hd hc) hl.isList rv.ints fun h' tk t' hk => ⟨.int _, H, I.kept hk, ⟨_, rfl⟩, q⟩
  · obtain ⟨its, rv, hl, _⟩ := I.tuple hs
    exact sum_tupRaw (I.ok.hd hc) hl rv.ints fun h' tk t' hk => ⟨.int _, H, I.kept hk, ⟨_, rfl⟩, q⟩
theorem sum_ok (K : PySem.W.Frag) : CallOk K (rSumA K) fSum := by
  intro G H xs ds p Q s hx e q
  unfold fSum at e
  split at e
  · split at e
    · rename_i hn
      cases e
      obtain ⟨v, rfl, hv⟩ := hx.one
      obtain ⟨a, rfl, h1⟩ := hv.ints s hn
      exact ⟨a, _, rfl, h1, q _ _ (.fz (.int _))⟩
    · cases e
  · cases e
theorem reads_ints {h : Heap} : ∀ {us : List Value} {ns : List Int}, IntsAre us ns → ReadsAll h us (ns.map .int) []
  | _, _, .nil => .nil
  | _, _, .cons n t r => by
    have := ReadsAll.cons (Reads.int (h := h) n t) (reads_ints r)
    simpa using this
theorem alike_int1 (ns : List Int) : PySem.W.AlikeAll (ns.map .int) := by
  refine ⟨fun x hx y hy => ?_, fun x hx => ?_⟩
  · obtain ⟨a, _, rfl⟩ := List.mem_map.mp hx
    obtain ⟨b, _, rfl⟩ := List.mem_map.mp hy
    simp [PySem.W.alike]
  · obtain ⟨a, _, rfl⟩ := List.mem_map.mp hx
    exact fun z => nomatch z
def rMinA (K : PySem.W.Frag) (f : Int → Int → Int) : List V → Hp → VK → Prop := fun vs H Q => ∃ (a : Addr) (n : Int) (ns : List Int), vs = [V.ref a] ∧ rSeqI K H a (n :: ns) ∧ Q (.int (ns.foldl f n)) H
theorem cr_minA (hc : X.calm = true) (hr : Room k X.A) : CallR X (.builtin "min") (rMinA X.K min) := by
  intro pins s σ H vs us Q I r h
  obtain ⟨a, n, ns, rfl, hs, q⟩ := h
  rw [Vals.ref1 r]
  have hd : X.A.units + 1 + PyData.depthAll ((n :: ns).map .int) < cLine := by
    rw [PySem.W.depth_ints]
    have := u65 (X := X) hr; omega
  have fin : ∀ (v : Value) (h' : Heap) (tk : Nat) (bs : List Addr), Reads h' v (PySem.W.minD (.int n) (ns.map .int)) bs → (∀ b o, s.heap.get? b = some o → h'.get? b = some o) → EP X pins σ Q v { s with heap := h', toks := tk } := by
    intro v h' tk bs hr hk
    rw [PySem.W.minD_ints] at hr
    cases hr
    exact ⟨.int _, H, I.kept hk, ⟨_, rfl⟩, q⟩
  rcases hs with hs | hs
  · obtain ⟨its, rv, hl, _⟩ := I.list hs
    exact PySem.W.min_list_data (x := .int n) (xs := ns.map .int) (as := []) (I.ok.hd hc) hl.isList (reads_ints rv.ints) (alike_int1 (n :: ns)) hd fun i v h' tk bs _ r k => fin v h' tk bs r k
  · obtain ⟨its, rv, hl, _⟩ := I.tuple hs
    exact PySem.W.min_tuple_data (x := .int n) (xs := ns.map .int) (as := []) (I.ok.hd hc) hl (reads_ints rv.ints) (alike_int1 (n :: ns)) hd fun i v h' tk bs _ r k => fin v h' tk bs r k
theorem cr_maxA (hc : X.calm = true) (hr : Room k X.A) : CallR X (.builtin "max") (rMinA X.K max) := by
  intro pins s σ H vs us Q I r h
  obtain ⟨a, n, ns, rfl, hs, q⟩ := h
  rw [Vals.ref1 r]
  have hd : X.A.units + 1 + PyData.depthAll ((n :: ns).map .int) < cLine := by
    rw [PySem.W.depth_ints]
    have := u65 (X := X) hr; omega
  have fin : ∀ (v : Value) (h' : Heap) (tk : Nat) (bs : List Addr), Reads h' v (PySem.W.maxD (.int n) (ns.map .int)) bs → (∀ b o, s.heap.get? b = some o → h'.get? b = some o) → EP X pins σ Q v { s with heap := h', toks := tk } := by
    intro v h' tk bs hr hk
    rw [PySem.W.maxD_ints] at hr
    cases hr
    exact ⟨.int _, H, I.kept hk, ⟨_, rfl⟩, q⟩
  rcases hs with hs | hs
  · obtain ⟨its, rv, hl, _⟩ := I.list hs
    exact PySem.W.max_list_data (x := .int n) (xs := ns.map .int) (as := []) (I.ok.hd hc) hl.isList (reads_ints rv.ints) (alike_int1 (n :: ns)) hd fun i v h' tk bs _ r k => fin v h' tk bs r k
  · obtain ⟨its, rv, hl, _⟩ := I.tuple hs
    exact PySem.W.max_tuple_data (x := .int n) (xs := ns.map .int) (as := []) (I.ok.hd hc) hl (reads_ints rv.ints) (alike_int1 (n :: ns)) hd fun i v h' tk bs _ r k => fin v h' tk bs r k
def fFold (f : Int → Int → Int) : List D → Option Pl
  | [d] => match seqInts d with
    | some (n :: ns) => some (.val (.int (ns.foldl f n)))
    | _ => none
  | _ => none
abbrev fMin := fFold min
abbrev fMax := fFold max
theorem fold_ok (K : PySem.W.Frag) (f : Int → Int → Int) : CallOk K (rMinA K f) (fFold f) := by
  intro G H xs ds p Q s hx e q
  unfold fFold at e
  split at e
  · split at e
    · rename_i hn
      cases e
      obtain ⟨v, rfl, hv⟩ := hx.one
      obtain ⟨a, rfl, h1⟩ := hv.ints s hn
      exact ⟨a, _, _, rfl, h1, q _ _ (.fz (.int _))⟩
    · cases e
  · cases e

/-! ### all -/
def blsOf : List D → Option (List Bool)
  | [] => some []
  | .bool b :: r => match blsOf r with
    | some bs => some (b :: bs)
    | none => none
  | _ => none
theorem blsOf_eq : ∀ {ds : List D} {bs : List Bool}, blsOf ds = some bs → ds = bs.map PyData.bool
  | [], _, h => by cases h; rfl
  | d :: ds, bs, h => by
    cases d <;> simp only [blsOf] at h <;> try (cases h; done)
    cases q : blsOf ds with
    | none => rw [q] at h; cases h
    | some ms =>
      rw [q] at h; cases h
      rw [blsOf_eq q]; rfl
theorem blsOf_map : ∀ bs : List Bool, blsOf (bs.map PyData.bool) = some bs
  | [] => rfl
  | n :: ns => by simp only [List.map_cons, blsOf, blsOf_map ns]
def fAll : List D → Option Pl
  | [.list a] => match blsOf a with
    | some bs => some (.val (.bool (bs.all id)))
    | none => none
  | _ => none
theorem all_ok (K : PySem.W.Frag) : CallOk K (rAll K) fAll := by
  intro G H xs ds p Q s hx e q
  unfold fAll at e
  split at e
  · split at e
    · rename_i bs hn
      cases e
      obtain ⟨v, rfl, hv⟩ := hx.one
      obtain ⟨a, xs, rfl, h1, h2⟩ := hv.lst s
      rw [blsOf_eq hn] at h2
      rw [h2.bls] at h1
      exact ⟨a, _, rfl, .inl h1, q _ _ (.fz (.bl _))⟩
    · cases e
  · cases e
end
end TN
namespace TN
open PySem PySem.Spec PyProof.Rows L2

/-! ### sorted(list) -/
def tup1 : D → Bool
  | .tuple (_ :: _) => true
  | _ => false
def notTup : D → Bool
  | .tuple _ => false
  | .none => false
  | _ => true
def sortOk (ds : List D) : Bool := ds.all (fun d => ds.all fun e => PySem.W.alike d e) && (ds.all tup1 || ds.all notTup) && ds.all (fun d => d.canLay0 && decide (d.depth ≤ 60)) && decide (ds.length ≤ 16777216)
def sortI (ns : List Int) : List Int := ns.mergeSort fun a b => decide (a ≤ b)
def sortDs (ds : List D) : Option (List D) := match intsOf ds with
  | some ns => if ns.length ≤ 16777216 then some ((sortI ns).map .int) else none
  | none => if sortOk ds = true then some (ds.mergeSort dLe) else none
theorem sortI_eq (ns : List Int) : (ns.map PyData.int).mergeSort dLe = (sortI ns).map .int := by
  refine (PySem.W.sort_maps PyData.int fun a _ b _ => ?_).symm
  have := congrFun (congrFun (PySem.W.dataLe_int (β := Int) id) a) b
  exact this.symm
theorem sortOk_ints {ns : List Int} (h : ns.length ≤ 16777216) : sortOk (ns.map .int) = true := by
  simp only [sortOk, Bool.and_eq_true, List.all_map, List.length_map, decide_eq_true_eq, Bool.or_eq_true]
  refine ⟨⟨⟨?_, .inr ?_⟩, ?_⟩, h⟩
  · simp [PySem.W.alike]
  · simp [notTup]
  · simp [PyData.canLay0, PyData.depth]
theorem sortDs_ok {ds es : List D} (h : sortDs ds = some es) : sortOk ds = true ∧ es = ds.mergeSort dLe := by
  unfold sortDs at h
  split at h
  · rename_i ns q
    split at h
    · rename_i hl
      cases h
      rw [intsOf_eq q, sortI_eq]
      exact ⟨sortOk_ints hl, rfl⟩
    · cases h
  · split at h
    · rename_i q
      cases h
      exact ⟨q, rfl⟩
    · cases h
inductive FzZ (K : PySem.W.Frag) (G : Hp) (b : V × D) : Prop
  | mk : Fz K G b.1 b.2 → FzZ K G b
theorem FzA.unzip {K : PySem.W.Frag} {G : Hp} : ∀ {bs : List (V × D)}, (∀ b ∈ bs, Fz K G b.1 b.2) → FzA K G (bs.map Prod.fst) (bs.map Prod.snd)
  | [], _ => .nil
  | b :: bs, h => .cons (h b List.mem_cons_self) (FzA.unzip fun c hc => h c (List.mem_cons_of_mem _ hc))
/-! sorted(a tuple) -/
section
variable {prog : Program} {w : World} {A : Around} {E : Value → Shared → Prop} {s : Shared}
theorem collect_tup {t : Addr} {us : List Value} {Q : List Value → Shared → Prop} (ht : IsTup s.heap t us.toArray) (hz : us.length ≤ sizeLine)
    (q : Q us { s with heap := (s.heap.push (seqObj "list" #[] 0)).update s.heap.objs.size (Obj.mapSeq (· ++ us.toArray)) }) :
    wpAny (model prog w) A (collect (.ref t)) Q E s := by
  obtain ⟨ob, hob, hcl, m, hdt⟩ := id ht
  unfold collect
  refine wpAny_bind (wpAny_runValue (codeAny_builtin entry_proto_collect' ?_))
  show wpAny _ _ (do again (.builtin "list.__iadd__" ⟨[← newList [], .ref t], []⟩)) _ _ s
  refine wpAny_bind (wpAny_newList (wpAny_pure ⟨Code.quiet_builtin _ (by decide +kernel), codeAny_builtin entry_list_iadd' ?_⟩))
  show wpAny _ _ (Builtin.List.listExtendWith (.ref s.heap.objs.size) (.ref t) (.ref s.heap.objs.size)) _ _ { s with heap := s.heap.push (seqObj "list" #[] 0) }
  unfold Builtin.List.listExtendWith
  have hob' : (s.heap.push (seqObj "list" #[] 0)).get? t = some ob := Heap.get?_push_of_some _ hob
  refine wpAny_bind (wpAny_typeOf (T := "tuple") ⟨ob, hob', hcl⟩ ?_)
  have hty : (Value.type "tuple" == Value.type "tuple") = true := by rfl
  rw [if_pos (by rw [hty]; simp)]
  refine wpAny_bind (listItems_at hob' hdt ?_)
  refine wpAny_bind (listItems_at (xs := #[]) (n := 0) (Heap.get?_push_size _ rfl) rfl ?_)
  rw [if_neg (by simp)]
  refine wpAny_bind (listUpdate_at (xs := #[]) (n := 0) (Heap.get?_push_size _ rfl) rfl ?_ (Nat.zero_le _) (by show (#[] ++ us.toArray).size ≤ sizeLine + 1; simp only [Array.size_append, List.size_toArray, List.length_nil]; omega))
  refine wpAny_pure ?_
  show wpAny (model prog w) A (do
      let ob ← load s.heap.objs.size
      match ob.data with
      | .seq zs _ => pure zs.toList
      | _ => unsupported "internal:collect") Q E { s with heap := (s.heap.push (seqObj "list" #[] 0)).update s.heap.objs.size (Obj.mapSeq (· ++ us.toArray)) }
  refine wpAny_bind (wpAny_load (get?_update_seq (Heap.get?_push_size _ rfl) _) ?_)
  show wpAny _ _ (pure ((#[] : Array Value) ++ us.toArray).toList) Q E _
  rw [show ((#[] : Array Value) ++ us.toArray).toList = us by simp]
  exact wpAny_pure q
theorem sorted_tupS {t : Addr} {us : List Value} {Q : Value → Shared → Prop} (ht : IsTup s.heap t us.toArray) (hz : us.length ≤ sizeLine)
    (body : ∀ E' : Value → Shared → Prop, wpAny (model prog w) A.in1.in1 (Builtin.«list.sort» ⟨[.ref (s.heap.objs.size + 1)], []⟩) (fun f s' => f = .done (.ret .none) ∧ Q (.ref (s.heap.objs.size + 1)) s') E' { s with heap := PySem.W.copyHeap s.heap us }) :
    wpAny (model prog w) A (call (.builtin "sorted") [.ref t]) Q E s := by
  refine call_function_entry_kw kind_sorted plain_sorted entry_sorted (args_sorted1 _) ?_
  unfold Builtin.«sorted»
  refine wpAny_bind (m := checkCount "sorted" 1 1 _) (wpAny_pure ?_)
  refine wpAny_bind (collect_tup ht hz ?_)
  refine wpAny_bind (wpAny_newList ?_ hz)
  have hn : ((s.heap.push (seqObj "list" #[] 0)).update s.heap.objs.size (Obj.mapSeq (· ++ us.toArray))).objs.size = s.heap.objs.size + 1 := by
    rw [Heap.size_update, size_push']
  show wpAny _ _ _ _ _ { s with heap := PySem.W.copyHeap s.heap us }
  rw [hn]
  refine wpAny_bind (wpAny_holding (wpAny_call_entry_kw slot_list_sort ⟨_, PySem.W.copyHeap_at s.heap us, rfl⟩ entry_list_sort ?bd (args_list_sort _)))
  case bd =>
    show wpAny (model prog w) A.in1.in1 (Builtin.«list.sort» ⟨[.ref (s.heap.objs.size + 1)], []⟩) _ _ _
    refine wpAny_mono (body _) (fun f s' hf => ?_) fun _ _ e => e
    obtain ⟨rfl, hq⟩ := hf
    exact ⟨_, rfl, wpAny_pure ⟨_, rfl, hq⟩⟩
theorem sorted_tupD {β : Type} {R : Value → β → Prop} {enc : β → PyData} {bs : List β} {t : Addr} {us : List Value} {Q : Value → Shared → Prop} (ht : IsTup s.heap t us.toArray) (e : PySem.W.EachIs R us bs) (er : PySem.W.EachIs (fun v b => ∃ as, Reads s.heap v (enc b) as) us bs) (hal : PySem.W.AllAlike (bs.map enc)) (hk : PySem.W.Sortable (bs.map enc)) (hL : bs.length ≤ sizeLine)
    (hu : ∀ b, b ∈ bs → A.units + 2 + (enc b).depth < cLine) (h : ∀ out, out.length = bs.length → PySem.W.EachIs R out (bs.mergeSort (PySem.W.dataLe false enc)) → Q (.ref (s.heap.objs.size + 1)) { s with heap := sortedAll s.heap us (List.toArray out) }) :
    wpAny (model prog w) A (call (.builtin "sorted") [.ref t]) Q E s := by
  have er' : PySem.W.EachIs (fun v b => ∃ as, Reads (PySem.W.sortingHeap (PySem.W.copyHeap s.heap us) (s.heap.objs.size + 1) us) v (enc b) as) us bs := er.mono fun _ _ ⟨as, r⟩ => ⟨as, PyProof.Rows.Reads.keeps (fun _ _ => PySem.W.sorting_copy_old) r⟩
  have hS := PySem.W.SortsAt.data (prog := prog) (w := w) (A := A.in1.in1) (s := { s with heap := PySem.W.sortingHeap (PySem.W.copyHeap s.heap us) (s.heap.objs.size + 1) us }) (PySem.W.each_map (R := fun v d => ∃ as, Reads (PySem.W.sortingHeap (PySem.W.copyHeap s.heap us) (s.heap.objs.size + 1) us) v d as) enc er') hal hk (PySem.W.bound_map hu)
  refine sorted_tupS ht (by rw [e.length]; exact hL) fun E' => PySem.W.list_sort_vals (s := { s with heap := PySem.W.copyHeap s.heap us }) (PySem.W.copyHeap_at s.heap us) hS (by rw [e.length]; exact hL) ⟨rfl, ?_⟩
  exact h _ (by rw [PySem.W.sortVals_length false rfl]; exact e.length) (PySem.W.sortVals_data false e er' hal)
end
section
variable {X : Cx} {k : Nat} {pins : List (Addr × Obj)} {σ : L2.St} {H : Hp} {s : Shared}
theorem eachR : ∀ {vs : List V} {us : List Value} {ds : List D}, Vals vs us → vs.length = ds.length → PySem.W.EachIs (fun (u : Value) (b : V × D) => RelV b.1 u) us (vs.zip ds)
  | _, _, [], .nil, _ => .nil
  | _, _, d :: ds, .cons r t, h => .cons r (eachR t (by simpa using h))
theorem eachReads (I : Inv X pins σ H s) {vs : List V} {us : List Value} {ds : List D} (r : Vals vs us) (h : DpAll X.K H vs ds) : PySem.W.EachIs (fun (u : Value) (b : V × D) => ∃ as, Reads s.heap u b.2 as) us (vs.zip ds) := by
  induction r generalizing ds with
  | nil => cases h; exact .nil
  | cons rv t ih =>
    cases h with
    | cons h1 h2 => exact .cons (Dp.reads I _ _ _ h1 rv) (ih h2)
theorem valsR : ∀ {us : List Value} {bs : List (V × D)}, PySem.W.EachIs (fun (u : Value) (b : V × D) => RelV b.1 u) us bs → Vals (bs.map Prod.fst) us
  | _, _, .nil => .nil
  | _, _, .cons r t => .cons r (valsR t)
/-- sorted(xs) of alike things -/
def rSortD (K : PySem.W.Frag) : List V → Hp → VK → Prop := fun vs H Q => ∃ (a : Addr) (xs : List V) (ds : List D), vs = [V.ref a] ∧ (SqL K H a xs ∨ SqT K H a xs) ∧ DpAll K H xs ds ∧ sortOk ds = true ∧
  ∀ (bs : List (V × D)) (p : Addr), bs.Perm (xs.zip ds) → bs.map Prod.snd = ds.mergeSort dLe → H p = none → Q (.ref p) (upd H p (.lst (bs.map Prod.fst)))
theorem dpLen {K : PySem.W.Frag} {H : Hp} : ∀ {ds : List D} {xs : List V}, DpAll K H xs ds → xs.length = ds.length
  | [], _, h => by cases h; rfl
  | d :: ds, _, h => by
    cases h with
    | cons _ h2 => simp [dpLen h2]
theorem cr_sortD (hr : Room k X.A) : CallR X (.builtin "sorted") (rSortD X.K) := by
  intro pins s σ H vs us Q I r h
  obtain ⟨a, xs, ds, rfl, hs, hd, ok, q⟩ := h
  have hsq : ∃ its : List Value, Vals xs its ∧ (s.heap.IsList a its.toArray ∨ IsTup s.heap a its.toArray) ∧ xs.length ≤ sizeLine := by
    rcases hs with hs | hs
    · obtain ⟨its, rv, hl, hz⟩ := I.list hs
      exact ⟨its, rv, .inl hl.isList, hz⟩
    · obtain ⟨its, rv, hl, hz⟩ := I.tuple hs
      exact ⟨its, rv, .inr hl, hz⟩
  obtain ⟨its, rv, hl, hz⟩ := hsq
  rw [Vals.ref1 r]
  simp only [sortOk, Bool.and_eq_true, Bool.or_eq_true, decide_eq_true_eq] at ok
  obtain ⟨⟨⟨o1, o2⟩, o3⟩, o4⟩ := ok
  have hlen : xs.length = ds.length := dpLen hd
  have e1 := eachR rv hlen
  have e2 := eachReads I rv hd
  have em : (xs.zip ds).map Prod.snd = ds := by rw [List.map_snd_zip]; omega
  have hal : PySem.W.AllAlike ((xs.zip ds).map Prod.snd) := by
    rw [em]
    exact fun d h1 e h2 => List.all_eq_true.mp (List.all_eq_true.mp o1 d h1) e h2
  have hk : PySem.W.Sortable ((xs.zip ds).map Prod.snd) := by
    rw [em]
    rcases o2 with o2 | o2
    · refine .inl fun d hd => ?_
      have := List.all_eq_true.mp o2 d hd
      unfold tup1 at this
      split at this
      · exact ⟨_, _, rfl⟩
      · cases this
    · refine .inr fun d hd => ?_
      have := List.all_eq_true.mp o2 d hd
      unfold notTup at this
      split at this
      · cases this
      · cases this
      · rename_i h1 h2
        exact ⟨fun z => h2 z, fun ys z => h1 ys z⟩
  have g1 : (xs.zip ds).length ≤ sizeLine := by
    rw [List.length_zip, hlen, Nat.min_self, sizeLine_eq]; exact o4
  have g2 : ∀ b ∈ xs.zip ds, X.A.units + 2 + b.2.depth < cLine := by
    intro b hb
    have hb2 : b.2 ∈ ds := by rw [← em]; exact List.mem_map_of_mem hb
    have := List.all_eq_true.mp o3 _ hb2
    simp only [Bool.and_eq_true, decide_eq_true_eq] at this
    have := u65 (X := X) hr
    omega
  have g3 : ∀ out : List Value, out.length = (xs.zip ds).length → PySem.W.EachIs (fun (u : Value) (b : V × D) => RelV b.1 u) out ((xs.zip ds).mergeSort (PySem.W.dataLe false Prod.snd)) → EP X pins σ Q (.ref (s.heap.objs.size + 1)) { s with heap := sortedAll s.heap its (List.toArray out) } := by
    intro out h1 h2
    have hp : ((xs.zip ds).mergeSort (PySem.W.dataLe false Prod.snd)).Perm (xs.zip ds) := List.mergeSort_perm _ _
    have hm : ((xs.zip ds).mergeSort (PySem.W.dataLe false Prod.snd)).map Prod.snd = ds.mergeSort dLe := by
      have z := PySem.W.sort_maps (r := PySem.W.dataLe false Prod.snd) (s := dLe) (Prod.snd : V × D → D) (l := xs.zip ds) (fun _ _ _ _ => rfl)
      rw [em] at z; exact z
    have hv := valsR h2
    have hL : (((xs.zip ds).mergeSort (PySem.W.dataLe false Prod.snd)).map Prod.fst).length ≤ sizeLine := by
      rw [List.length_map, hp.length_eq, List.length_zip, hlen, Nat.min_self, sizeLine_eq]; exact o4
    obtain ⟨ep, he'⟩ := PyProof.Rows.sortedAll_at s.heap its (List.toArray out)
    exact ⟨.ref _, upd H (s.heap.objs.size + 1) (.lst _), I.laid (t' := s.toks) (fun _ _ => PyProof.Rows.sortedAll_old) (Nat.le_succ _) ⟨hL, out, ep, hv, he'⟩, rfl, q _ _ hp hm (I.hok.fresh (Nat.le_succ _))⟩
  rcases hl with hl | hl
  · exact PySem.W.sorted_data (bs := xs.zip ds) (enc := Prod.snd) hl e1 e2 hal hk g1 g2 g3
  · exact sorted_tupD (bs := xs.zip ds) (enc := Prod.snd) hl e1 e2 hal hk g1 g2 g3
def fSorted : List D → Option Pl
  | [.list a] => (sortDs a).map fun es => .tmp (.list es)
  | [.tuple a] => (sortDs a).map fun es => .tmp (.list es)
  | _ => none
theorem sortOk_lay {a : List D} (h : sortOk a = true) : PyData.canLayAll0 a = true := by
  simp only [sortOk, Bool.and_eq_true] at h
  have : ∀ ds : List D, ds.all (fun d => d.canLay0 && decide (d.depth ≤ 60)) = true → PyData.canLayAll0 ds = true := by
    intro ds
    induction ds with
    | nil => intro _; simp [PyData.canLayAll0]
    | cons d ds ih =>
      intro h
      simp only [List.all_cons, Bool.and_eq_true] at h
      simp only [PyData.canLayAll0, Bool.and_eq_true]
      exact ⟨h.1.1, ih (by simpa using h.2)⟩
  exact this a h.1.2
theorem sorted_ok (K : PySem.W.Frag) : CallOk K (rSortD K) fSorted := by
  intro G H xs ds p Q s hx e q
  have main : ∀ {a es : List D} {b : Addr} {ys : List V}, sortDs a = some es → xs = [V.ref b] → (SqL K H b ys ∨ SqT K H b ys) → FzA K G ys a → p = .tmp (.list es) → rSortD K xs H Q := by
    intro a es b ys h hxs hs h2 hp
    subst hxs hp
    obtain ⟨o1, rfl⟩ := sortDs_ok h
    refine ⟨b, ys, a, rfl, hs, h2.dp s (sortOk_lay o1), o1, fun bs p hp hm hn => ?_⟩
    obtain ⟨z1, z2, z3⟩ := h2.zip
    have := FzA.unzip (K := K) (G := G) (bs := bs) fun c hc => z1 c (hp.mem_iff.mp hc)
    rw [hm] at this
    exact q _ _ (.lst hn this)
  unfold fSorted at e
  split at e
  · rename_i a
    cases h : sortDs a with
    | none => rw [h] at e; cases e
    | some es =>
      rw [h] at e
      obtain ⟨v, rfl, hv⟩ := hx.one
      obtain ⟨b, ys, rfl, h1, h2⟩ := hv.lst s
      exact main h rfl (.inl (.inl h1)) h2 (Option.some.inj e).symm
  · rename_i a
    cases h : sortDs a with
    | none => rw [h] at e; cases e
    | some es =>
      rw [h] at e
      obtain ⟨v, rfl, hv⟩ := hx.one
      obtain ⟨b, ys, rfl, _, h1, h2⟩ := hv.tup s
      exact main h rfl (.inr h1) h2 (Option.some.inj e).symm
  · cases e

/-! ### list(range(..)), tuple(range(..)) -/
def SR (X : Cx) (e : Expr) (c : Rho → R (Int × Int)) : Prop := ∀ W : WX, Takes X W → PRg X e fun σ H Q => ∃ (L : L2.St) (ρ : Rho) (G B : Hp), Rel X.K L B σ ρ G H ∧ Got X L W σ G B (fun ab _ _ _ (b : Int × Int) => b = ab) (c ρ) (fun ab H' => Q ab.1 ab.2 H')
theorem PRgimp {X : Cx} {e : Expr} {t t' : L2.St → Hp → (Int → Int → Hp → Prop) → Prop} (h : PRg X e t) (w : ∀ σ H Q, t' σ H Q → t σ H Q) : PRg X e t' := fun pins s σ H Q I q => h pins s σ H Q I (w _ _ _ q)
def cRg1 (a : CE) : Rho → R (Int × Int) := fun ρ => (a ρ).bind fun p ρ1 => match look p ρ1 with
  | some (.int i) => .ok (0, i) ρ1
  | _ => .bad
def cRg2 (a b : CE) : Rho → R (Int × Int) := fun ρ => (a ρ).bind fun p ρ1 => (b ρ1).bind fun q ρ2 => match look p ρ2, look q ρ2 with
  | some (.int i), some (.int j) => .ok (i, j) ρ2
  | _, _ => .bad
variable {a b e : Expr} {ca cb : CE} {p pos : Pos} {cr : Rho → R (Int × Int)}
theorem sr_2 (hg : Gl X "range") (hm : X.mg "range" = none) (ha : SX X a ca) (hb : SX X b cb) (na : starEach [a, b] X.env = (false, eval a X.env) :: starEach [b] X.env := by rfl)
    (nb : starEach [b] X.env = (false, eval b X.env) :: starEach [] X.env := by rfl) (hp : (backTo pos (starEach [b] X.env)).any (·.1) = false := by rfl) : SR X (.Call (.Name "range" p) [a, b] [] pos) (cRg2 ca cb) := fun W tk =>
  PRgimp (prg_2 hg hm (ha W tk) (hb W tk) na nb hp) (by
  rintro σ H Q ⟨L, ρ, G, B, rel, h⟩
  refine ⟨L, ρ, G, B, rel, (Got.bind h).mono ?_⟩
  rintro x H1 ⟨p, ρ1, G1, _, rel1, _, fx1, h1⟩
  refine ⟨L, ρ1, G1, B, rel1, (Got.bind h1).mono ?_⟩
  rintro y H2 ⟨q, ρ2, G2, _, rel2, ext2, fx2, h2⟩
  split at h2
  · rename_i i j e1 e2
    exact ⟨i, j, ((fx1.mono ext2.same).look rel2 e1).int, (fx2.look rel2 e2).int, h2 (i, j) H2 G2 rel2 .refl rfl⟩
  · exact h2.elim)
def rgI (a b : Int) : List Int := (List.range (b - a).toNat).map fun i => a + (i : Nat)
theorem rgV_eq (a b : Int) : rgV a b = (rgI a b).map V.int := by unfold rgV rgI; rw [List.map_map]; rfl
def rgOk (a b : Int) : Bool := decide (-1000000 ≤ a) && decide (a ≤ 1000000) && decide (-1000000 ≤ b) && decide (b ≤ 1000000)
theorem rgOk_ok {a b : Int} (h : rgOk a b = true) : RgOk a b := by
  simp only [rgOk, Bool.and_eq_true, decide_eq_true_eq] at h
  exact ⟨by omega, by omega, by omega, by omega, by omega⟩
def cLstRg (c : Rho → R (Int × Int)) : CE := fun ρ => match c ρ with
  | .ok ab ρ1 => if rgOk ab.1 ab.2 = true then .ok (.tmp (.list ((rgI ab.1 ab.2).map .int))) ρ1 else .bad
  | .exc x ρ1 => .exc x ρ1
  | .bad => .bad
def cTupRg (c : Rho → R (Int × Int)) : CE := fun ρ => match c ρ with
  | .ok ab ρ1 => if rgOk ab.1 ab.2 = true then .ok (.val (.tuple ((rgI ab.1 ab.2).map .int))) ρ1 else .bad
  | .exc x ρ1 => .exc x ρ1
  | .bad => .bad
theorem sx_lstRg (hc : X.calm = true) (hg : Gl X "list") (hm : X.mg "list" = none) (he : SR X e cr) (na : starEach [e] X.env = (false, eval e X.env) :: starEach [] X.env := by rfl) : SX X (.Call (.Name "list" p) [e] [] pos) (cLstRg cr) := fun W tk =>
  PEimp (pe_listRg hc hg hm (he W tk) na) (by
  rintro σ H Q ⟨L, ρ, G, B, rel, h⟩
  refine ⟨L, ρ, G, B, rel, ?_⟩
  unfold cLstRg at h
  cases q : cr ρ with
  | bad => rw [q] at h; exact h.elim
  | exc x ρ1 => rw [q] at h; exact h
  | ok ab ρ1 =>
    simp only [q] at h
    rintro ab' H1 G1 rel1 ext1 rfl
    split at h
    · rename_i ok
      refine ⟨rgOk_ok ok, fun q' hq => ?_⟩
      rw [rgV_eq]
      exact Got.done rel1 (Got.shift ext1 h) (.lst hq (.of_ints _))
    · exact h.elim)
/-! ### x in range(..) -/
/-! ### len(set(xs)) of ints -/
def ddI (ns : List Int) : List Int := ns.foldl step_dedup []
theorem dd_nodup : ∀ (ns acc : List Int), acc.Nodup → (ns.foldl step_dedup acc).Nodup ∧ ∀ x, x ∈ ns.foldl step_dedup acc ↔ x ∈ acc ∨ x ∈ ns
  | [], acc, h => ⟨h, fun x => by simp⟩
  | n :: ns, acc, h => by
    have h2 : (step_dedup acc n).Nodup ∧ ∀ x, x ∈ step_dedup acc n ↔ x ∈ acc ∨ x = n := by
      unfold step_dedup
      by_cases hb : acc.any (· == n) = true
      · rw [if_pos hb]
        refine ⟨h, fun x => ⟨.inl, fun z => z.elim id fun e => ?_⟩⟩
        subst e
        obtain ⟨y, hy, ey⟩ := List.any_eq_true.mp hb
        rw [← eq_of_beq ey]; exact hy
      · rw [if_neg hb]
        refine ⟨?_, fun x => by simp⟩
        rw [List.nodup_append]
        refine ⟨h, by simp, fun a ha b hb' => ?_⟩
        rw [List.mem_singleton] at hb'
        subst hb'
        intro e
        subst e
        exact hb (List.any_eq_true.mpr ⟨_, ha, by simp⟩)
    obtain ⟨i1, i2⟩ := dd_nodup ns (step_dedup acc n) h2.1
    refine ⟨i1, fun x => ?_⟩
    rw [List.foldl_cons, i2, h2.2]
    simp only [List.mem_cons]
    constructor
    · rintro ((h | h) | h)
      · exact .inl h
      · exact .inr (.inl h)
      · exact .inr (.inr h)
    · rintro (h | h | h)
      · exact .inl (.inl h)
      · exact .inl (.inr h)
      · exact .inr h
theorem ddI_nodup (ns : List Int) : (ddI ns).Nodup := (dd_nodup ns [] .nil).1
theorem ddI_mem (ns : List Int) (x : Int) : x ∈ ddI ns ↔ x ∈ ns := by
  have := (dd_nodup ns [] .nil).2 x
  simpa [ddI] using this
theorem len_of_nodup {xs ys : List Int} (h1 : xs.Nodup) (h2 : ys.Nodup) (h : ∀ x, x ∈ xs ↔ x ∈ ys) : xs.length = ys.length :=
  (List.perm_ext_iff_of_nodup h1 h2 |>.mpr h).length_eq
theorem firstMet_dd (ns : List Int) : PyProof.Rows.firstMet (fun i => ns.getD i 0) ns.length = ddI ns := by
  unfold PyProof.Rows.firstMet ddI
  congr 1
  apply List.ext_getElem?
  intro i
  rw [List.getElem?_map]
  by_cases hi : i < ns.length
  · simp [hi]
  · simp [hi]

/-- len(set(xs)) -/
def lenSetR (K : PySem.W.Frag) (ta : TE) : TE := fun σ H Q => ta σ H fun x H1 => ∃ (l : Addr) (ns : List Int), x = .ref l ∧ rSeqI K H1 l ns ∧ ns.length ≤ 4000 ∧ Q (.int ((ddI ns).length : Nat)) H1
theorem pe_lenSetA {ta : TE} {p2 q : Pos} (hg : Gl X "len") (hm : X.mg "len" = none) (hg2 : Gl X "set") (hm2 : X.mg "set" = none) (ha : PE X a ta) (hc : X.calm = true)
    (na : starEach [a] X.env = (false, eval a X.env) :: starEach [] X.env := by rfl) : PE X (.Call (.Name "len" p) [.Call (.Name "set" p2) [a] [] q] [] pos) (lenSetR X.K ta) := by
  refine ⟨fun pins s σ H Q I h => ?_⟩
  refine Call_ (ld_blt I hg hm boot_len ?_)
  refine PyProof.Rows.callWith_builtin1 (PyProof.Rows.args_cons ?_ rfl) rfl rfl
  refine Call_ (ld_blt I hg2 hm2 PyProof.Rows.boot_set ?_)
  refine PyProof.Rows.callWith_type1 (PyProof.Rows.args_cons (thn (ha.run pins s σ H _ I h) fun v s1 ⟨x, H1, I1, r1, q1⟩ => PyProof.Rows.args_nil ?_) na) na rfl
  obtain ⟨l, ns, rfl, hq, hl, q1⟩ := q1
  cases r1
  rcases hq with hq | hq
  · obtain ⟨its, r, pl, hz⟩ := I1.list hq
    have hlen : its.toArray.size = ns.length := by rw [List.size_toArray, ← r.length, List.length_map]
    refine call_set_list (I1.ok.hd hc) pl.isList (by simpa using r.ints) (by rw [hlen]; unfold scanBound; omega) fun h' tk hS hk => ?_
    refine PyProof.Rows.args_nil ?_
    rw [hlen, firstMet_dd] at hS
    obtain ⟨o, es, ep, t, ho, hex, hd, _, _, _, hf, hn⟩ := hS
    have I2 : Inv X pins σ H1 { s1 with heap := h', toks := tk } := I1.kept fun b o e => hk b o (Heap.lt_size e) e
    have hdl : (ddI ns).length ≤ ns.length := by rw [← firstMet_dd]; exact PyProof.Rows.firstMet_length_le _ _
    exact call_len_set ho hex hd hf (by rw [hn] <;> omega) ⟨.int (ddI ns).length, H1, I2.tok _, ⟨_, by rw [hn]⟩, q1⟩
  · obtain ⟨its, r, pl, hz⟩ := I1.tuple hq
    have hlen : its.toArray.size = ns.length := by rw [List.size_toArray, ← r.length, List.length_map]
    refine call_set_tupI ns (I1.ok.hd hc) pl (by simpa using r.ints) (by unfold scanBound; omega) fun h' tk c hS hcl hk => ?_
    refine PyProof.Rows.args_nil ?_
    obtain ⟨o, es, ep, t, ho, hex, hd, hg, hnd, hmem, hbd, hf, hn, _⟩ := hS
    have I2 : Inv X pins σ H1 { s1 with heap := h', toks := tk } := I1.kept hk
    have e : c = (ddI ns).length := by
      rw [← hn, ← Array.length_toList, ← List.length_map (f := keyOf)]
      refine len_of_nodup hnd (ddI_nodup ns) fun x => ?_
      rw [ddI_mem, ← hmem x, decide_eq_true_eq]
    subst e
    exact call_len_set ho hex hd hf (by rw [hn] <;> omega) ⟨.int (ddI ns).length, H1, I2.tok _, ⟨_, by rw [hn]⟩, q1⟩
def fLenSet (d : D) : Option Pl := match seqInts d with
  | some ns => if ns.length ≤ 4000 then some (.val (.int ((ddI ns).length : Nat))) else none
  | none => none
theorem sx_lenSet {p2 q : Pos} (hc : X.calm = true) (hg : Gl X "len") (hm : X.mg "len" = none) (hg2 : Gl X "set") (hm2 : X.mg "set" = none) (ha : SX X a ca)
    (na : starEach [a] X.env = (false, eval a X.env) :: starEach [] X.env := by rfl) : SX X (.Call (.Name "len" p) [.Call (.Name "set" p2) [a] [] q] [] pos) (cUn fLenSet ca) := fun W tk =>
  PEimp (pe_lenSetA hg hm hg2 hm2 (ha W tk) hc na) (by
  rintro σ H Q ⟨L, ρ, G, B, rel, h⟩
  refine ⟨L, ρ, G, B, rel, (Got.bind h).mono ?_⟩
  rintro v H1 ⟨q, ρ1, G1, _, rel1, _, fx1, h1⟩
  cases e1 : look q ρ1 with
  | none => simp only [e1] at h1; exact h1.elim
  | some d =>
    simp only [e1] at h1
    unfold fLenSet at h1
    cases e2 : seqInts d with
    | none => simp only [e2] at h1; exact h1.elim
    | some ns =>
      simp only [e2] at h1
      by_cases hl : ns.length ≤ 4000
      · rw [if_pos hl] at h1
        obtain ⟨a, rfl, ha⟩ := (fx1.look rel1 e1).ints rel1.sub e2
        exact ⟨a, ns, rfl, ha, hl, Got.done rel1 h1 (.fz (.int _))⟩
      · rw [if_neg hl] at h1; exact h1.elim)
end
end TN
/-! ### enumerate(tuple) -/
namespace PySem
open Sem (wp)
open AutoSeq1 (wpAny_loadPart')
theorem meets_enumerate_newT (l : Addr) (items : Array Value) (n : Nat) (dct : Option Addr) (sl : Array (Option Value)) :
    Meets (Builtin.«enumerate.__new__» ⟨[.type "enumerate", .ref l], []⟩) (fun _ R s => s.heap.get? l = some { cls := .type "tuple", dict := dct, data := .seq items n, slots := sl } ∧
      R (.ok (.ret (.ref (s.heap.push { cls := .type "tuple_iterator", data := .fields #[.ref l, .int 0 0] }).objs.size)))
        { s with heap := (s.heap.push { cls := .type "tuple_iterator", data := .fields #[.ref l, .int 0 0] }).push { cls := .type "enumerate", data := .fields #[.none, .bool false, .ref s.heap.objs.size, rawInt 0, .none, .none] } }) :=
  .of_wp fun prog w A R s h => by
    obtain ⟨hp, g, d, tk, os⟩ := s; obtain ⟨hl, h⟩ := h
    have hsub := sub_enumerate
    have hL : Heap.IsTuple (Shared.heap ⟨hp, g, d, tk, os⟩) l items := ⟨_, hl, rfl, n, rfl⟩
    wp_walk using wpAny_loadPart' hl
    refine wpAny_stack_any fun st => wpAny_pure ?_
    split
    · rename_i c _ _ _ _ _
      cases (c == Value.type "enumerate")
      · wp_walk using wpAny_loadPart' hl, wpAny_pyIter_tuple hL
        exact ⟨_, rfl, h⟩
      · wp_walk using wpAny_loadPart' hl, wpAny_pyIter_tuple hL
        exact ⟨_, rfl, h⟩
    · wp_walk using wpAny_loadPart' hl, wpAny_pyIter_tuple hL
      exact ⟨_, rfl, h⟩
section
variable {prog : Program} {w : World} {A : Around} {E : Value → Shared → Prop} {s : Shared}
theorem call_enumerate_tup {l : Addr} {items : Array Value} {Q : Value → Shared → Prop} (hL : s.heap.IsTuple l items)
    (h : ∀ h', IsEnum h' (s.heap.objs.size + 1) s.heap.objs.size 0 .none → h'.IsTupleIter s.heap.objs.size l 0 → h'.objs.size = s.heap.objs.size + 2 →
      (∀ b o, s.heap.get? b = some o → h'.get? b = some o) → Q (.ref (s.heap.objs.size + 1)) { s with heap := h' }) :
    wpAny (model prog w) A (call (.type "enumerate") [.ref l]) Q E s := by
  obtain ⟨⟨c, dct, dt, sl⟩, hl, hc, n, hd⟩ := hL
  replace hc : c = .type "tuple" := hc
  replace hd : dt = .seq items n := hd
  subst hc hd
  refine callType_new F.called_enumerate (by decide) (F.typeCall_enumerate_1 _) (F.newCall_enumerate_1 _) (fun obj => F.args_object_init_2 obj _) F.entry_enumerate_new
    (meets_enumerate_newT l items n dct sl) ⟨hl, ?_⟩
  have hz : (s.heap.push { cls := .type "tuple_iterator", data := .fields #[.ref l, .int 0 0] }).objs.size = s.heap.objs.size + 1 := Heap.size_push ..
  show _ ∧ _
  rw [hz]
  have he : IsEnum ((s.heap.push { cls := .type "tuple_iterator", data := .fields #[.ref l, .int 0 0] }).push
      { cls := .type "enumerate", data := .fields #[.none, .bool false, .ref s.heap.objs.size, rawInt 0, .none, .none] }) (s.heap.objs.size + 1) s.heap.objs.size 0 .none := by
    have := Heap.get?_push_size (s.heap.push { cls := .type "tuple_iterator", data := .fields #[.ref l, .int 0 0] })
      (o := { cls := .type "enumerate", data := .fields #[.none, .bool false, .ref s.heap.objs.size, rawInt 0, .none, .none] }) rfl
    rw [hz] at this; exact this
  refine ⟨⟨_, he, rfl⟩, h _ he ⟨_, Heap.get?_push_of_some _ (Heap.get?_push_size _ rfl), rfl, rfl⟩ (by rw [Heap.size_push, hz]) fun b o x => Heap.get?_push_of_some _ (Heap.get?_push_of_some _ x)⟩
theorem wpAny_pyNext_enumT_end {e it l : Addr} {i : Nat} {items : Array Value} {old : Value} {Q : Option Value → Shared → Prop} (hh : A.handled = none)
    (he : IsEnum s.heap e it i old) (hit : s.heap.IsTupleIter it l i) (hl : s.heap.IsTuple l items) (hx : items[i]? = none)
    (hQ : ∀ h', Heap.ExtBut it s.heap h' → Q none { s with heap := h' }) : wpAny (model prog w) A (pyNext (.ref e)) Q E s := by
  have hT : s.TypeIs (.ref e) "enumerate" := ⟨_, he, rfl⟩
  unfold pyNext
  refine wpAny_bind (wpAny_attempt (wpAny_callSpecial?_slot (name := Str.ofString "__next__") hT F.slot_enumerate_next
    (wpAny_call_entry F.slot_enumerate_next hT F.entry_enumerate_next ?_ (F.args_enumerate_next_1 _))))
  show wpAny _ _ (field (.ref e) 2 >>= _) _ _ _
  refine wpAny_bind (wpAny_field he rfl (x := .ref it) rfl ?_)
  refine wpAny_bind (wpAny_nextOf_tuple_end hh hit hl hx fun h' x he' hx' => ?_)
  obtain ⟨o, ho, hc⟩ := hx'
  refine wpAny_bind (wpAny_isInstance (T := "StopIteration") (b := true) ⟨o, ho, hc⟩ isSubtype_stop ?_)
  exact wpAny_pure (hQ _ he')
end
end PySem
namespace TN
open PySem PySem.Spec PyProof.Rows L2
/-- the tuple at a, each item in a new pair -/
def IteT (K : PySem.W.Frag) (a : Addr) : It :=
  ⟨fun i H => ∃ (xs : List V) (x : V), SqT K H a xs ∧ xs[i]? = some x, fun i H v H' => ∃ T x, ∃ o : Obj, v = .ref T ∧ H T = none ∧ H' = upd H T (.frz o (.tup [.int (i : Nat), x])) ∧ o.dict = none ∧ ∀ xs, SqT K H a xs → xs[i]? = some x, fun i H => ∃ xs : List V, SqT K H a xs ∧ xs.length ≤ i⟩
theorem turn_enumT {P : Program} {w : World} {K : PySem.W.Frag} {elts : List Expr} {kk : Nat} {tpos : Pos} (a e it : Addr) :
    Turn P w K (.Tuple elts kk tpos) (IteT K a) [e, it] e (fun i h => (∃ old, IsEnum h e it ((i : Nat) : Int) old) ∧ h.IsTupleIter it a i ∧ e ≠ it) where
  mem := by simp
  obj := fun i h st b hb => by
    obtain ⟨⟨old, he⟩, ⟨o, ho, hc, hd⟩, _⟩ := st
    have e' : b = e ∨ b = it := by simpa using hb
    rcases e' with z | z
    · rw [z]; exact ⟨_, he, fun v q => nomatch q⟩
    · rw [z]; exact ⟨o, ho, fun v q => by rw [hd] at q; cases q⟩
  keep := fun i h h' st k => let ⟨⟨old, he⟩, hi, hne⟩ := st; ⟨⟨old, k e (by simp) _ he⟩, hi.at fun o q => k it (by simp) o q, hne⟩
  item := by
    intro X hP hw hK hc i pins s σ H E I hf st hg
    subst hP hw hK
    obtain ⟨⟨old, he⟩, hit, hne⟩ := st
    obtain ⟨xs, x, hq, hx⟩ := hg
    obtain ⟨its, rv, p, hz⟩ := I.tuple hq
    obtain ⟨u, hu, ru⟩ := rv.get hx
    have hel : e < s.heap.objs.size := Heap.lt_size he
    have hil : it < s.heap.objs.size := by obtain ⟨_, q, _⟩ := hit; exact Heap.lt_size q
    have hie : it ≠ a := fun z => by
      subst z
      obtain ⟨o, e1, c1, _⟩ := p
      obtain ⟨o', e2, c2, _⟩ := hit
      rw [e1] at e2; cases e2
      rw [c1] at c2; exact absurd c2 (by decide)
    have hea : e ≠ a := fun z => by
      subst z
      obtain ⟨o, e1, c1, _⟩ := p
      rw [he] at e1; cases e1
      exact absurd (show Value.type "enumerate" = Value.type "tuple" from c1) (by decide)
    have hlt : i < its.toArray.size := by
      obtain ⟨z, _⟩ := List.getElem?_eq_some_iff.mp hu
      simpa using z
    refine wpAny_pyNext_enum_itemD (Draws.tuple (A := X.A.in1) (I.ok.hd hc) it a (Ne.symm hie) its.toArray) he ⟨hit, p⟩ hlt hne (by simp [hne, hea]) fun x' h' tk hx' ho hit' hT hsz hk => ?_
    have ex : x' = u := by
      have h1 : its[i]? = some x' := by simpa using hx'
      rw [hu] at h1; cases h1; rfl
    subst ex
    refine ⟨_, rfl, wpAny_letOwnedTupleGo_enum (s := { s with heap := h', toks := tk + 1 }) ho fun h'' he' sb => ?_⟩
    have hT2 : h''.get? s.heap.objs.size = some { cls := .type "tuple", data := .seq #[.int i tk, x'] } := (sb.2 _ (Nat.ne_of_gt hel)).trans hT
    have new : ObjOk X.prog X.w (upd H s.heap.objs.size (.frz { cls := .type "tuple", data := .seq #[.int i tk, x'] } (.tup [.int (i : Nat), x]))) h'' s.heap.objs.size (.frz { cls := .type "tuple", data := .seq #[.int i tk, x'] } (.tup [.int (i : Nat), x])) :=
      ⟨hT2, by show 2 ≤ sizeLine; decide, [.int i tk, x'], .cons ⟨_, rfl⟩ (.cons ru .nil), ⟨_, hT2, rfl, _, rfl⟩⟩
    have I1 : Inv X pins σ (upd H s.heap.objs.size (.frz { cls := .type "tuple", data := .seq #[.int i tk, x'] } (.tup [.int (i : Nat), x]))) { s with heap := h'', toks := tk + 1 } :=
      I.turnedNew (ch := [e, it]) (fun b ob hb q => (sb.2 b (fun z => hb (by simp [z]))).trans (hk b ob (fun z => hb (by simp [z])) (fun z => hb (by simp [z])) q)) hf (Nat.le_refl _) new
    refine ⟨.ref s.heap.objs.size, _, I1, rfl, ⟨_, x, _, rfl, I.hok.fresh (Nat.le_refl _), rfl, rfl, fun ys hy => by rw [I.tuple_inj hy hq]; exact hx⟩, ⟨⟨x', ?_⟩, hit'.1.at fun o q => (sb.2 it (Ne.symm hne)).trans q, hne⟩, fun b hb => ?_⟩
    · have e1 : ((i + 1 : Nat) : Int) = (i : Int) + 1 := by omega
      rw [e1]; exact he'
    · have hb' : b < s.heap.objs.size := by
        have e' : b = e ∨ b = it := by simpa using hb
        rcases e' with z | z
        · rw [z]; exact hel
        · rw [z]; exact hil
      rw [upd_ne (Nat.ne_of_lt hb')]
      exact (hf b hb).1
  done := by
    intro X hP hw hK hc i pins s σ H E I hf st hg
    subst hP hw hK
    obtain ⟨⟨old, he⟩, hit, hne⟩ := st
    obtain ⟨xs, hq, hx⟩ := hg
    obtain ⟨its, rv, p, hz⟩ := I.tuple hq
    obtain ⟨f0, f1, f2, f3, f4, f5⟩ := hf it (by simp)
    have hl := rv.length
    have hend : its.toArray[i]? = none := by simp; omega
    exact wpAny_pyNext_enumT_end (I.ok.hd hc) he hit p hend fun h' eb => ⟨rfl, I.turned (t' := s.toks) (fun b o hb q => eb b o hb q) f0 f1 f3 f4 f5⟩
  self := fun A i s Q E st h => let ⟨⟨_, he⟩, _⟩ := st; wpAny_pyIter_enum he h
/-- the list at a, each item in a new pair -/
def IteL (K : PySem.W.Frag) (a : Addr) : It :=
  ⟨fun i H => ∃ (xs : List V) (x : V), SqL K H a xs ∧ xs[i]? = some x, fun i H v H' => ∃ T x, ∃ o : Obj, v = .ref T ∧ H T = none ∧ H' = upd H T (.frz o (.tup [.int (i : Nat), x])) ∧ o.dict = none ∧ ∀ xs, SqL K H a xs → xs[i]? = some x, fun i H => ∃ xs : List V, SqL K H a xs ∧ xs.length ≤ i⟩
theorem turn_enumL {P : Program} {w : World} {K : PySem.W.Frag} {elts : List Expr} {kk : Nat} {tpos : Pos} (a e it : Addr) :
    Turn P w K (.Tuple elts kk tpos) (IteL K a) [e, it] e (fun i h => (∃ old, IsEnum h e it ((i : Nat) : Int) old) ∧ h.IsListIter it a i ∧ e ≠ it) where
  mem := by simp
  obj := fun i h st b hb => by
    obtain ⟨⟨old, he⟩, ⟨o, ho, hc, hd⟩, _⟩ := st
    have e' : b = e ∨ b = it := by simpa using hb
    rcases e' with z | z
    · rw [z]; exact ⟨_, he, fun v q => nomatch q⟩
    · rw [z]; exact ⟨o, ho, fun v q => by rw [hd] at q; cases q⟩
  keep := fun i h h' st k => let ⟨⟨old, he⟩, hi, hne⟩ := st; ⟨⟨old, k e (by simp) _ he⟩, hi.at fun o q => k it (by simp) o q, hne⟩
  item := by
    intro X hP hw hK hc i pins s σ H E I hf st hg
    subst hP hw hK
    obtain ⟨⟨old, he⟩, hit, hne⟩ := st
    obtain ⟨xs, x, hq, hx⟩ := hg
    obtain ⟨its, rv, pl, hz⟩ := I.list hq
    have p := pl.isList
    obtain ⟨u, hu, ru⟩ := rv.get hx
    have hel : e < s.heap.objs.size := Heap.lt_size he
    have hil : it < s.heap.objs.size := by obtain ⟨_, q, _⟩ := hit; exact Heap.lt_size q
    have hie : it ≠ a := fun z => by
      subst z
      obtain ⟨o, e1, c1, _⟩ := p
      obtain ⟨o', e2, c2, _⟩ := hit
      rw [e1] at e2; cases e2
      rw [c1] at c2; exact absurd c2 (by decide)
    have hea : e ≠ a := fun z => by
      subst z
      obtain ⟨o, e1, c1, _⟩ := p
      rw [he] at e1; cases e1
      exact absurd (show Value.type "enumerate" = Value.type "list" from c1) (by decide)
    have hlt : i < its.toArray.size := by
      obtain ⟨z, _⟩ := List.getElem?_eq_some_iff.mp hu
      simpa using z
    refine wpAny_pyNext_enum_itemD (Draws.list (A := X.A.in1) (I.ok.hd hc) it a (Ne.symm hie) its.toArray) he ⟨hit, p⟩ hlt hne (by simp [hne, hea]) fun x' h' tk hx' ho hit' hT hsz hk => ?_
    have ex : x' = u := by
      have h1 : its[i]? = some x' := by simpa using hx'
      rw [hu] at h1; cases h1; rfl
    subst ex
    refine ⟨_, rfl, wpAny_letOwnedTupleGo_enum (s := { s with heap := h', toks := tk + 1 }) ho fun h'' he' sb => ?_⟩
    have hT2 : h''.get? s.heap.objs.size = some { cls := .type "tuple", data := .seq #[.int i tk, x'] } := (sb.2 _ (Nat.ne_of_gt hel)).trans hT
    have new : ObjOk X.prog X.w (upd H s.heap.objs.size (.frz { cls := .type "tuple", data := .seq #[.int i tk, x'] } (.tup [.int (i : Nat), x]))) h'' s.heap.objs.size (.frz { cls := .type "tuple", data := .seq #[.int i tk, x'] } (.tup [.int (i : Nat), x])) :=
      ⟨hT2, by show 2 ≤ sizeLine; decide, [.int i tk, x'], .cons ⟨_, rfl⟩ (.cons ru .nil), ⟨_, hT2, rfl, _, rfl⟩⟩
    have I1 : Inv X pins σ (upd H s.heap.objs.size (.frz { cls := .type "tuple", data := .seq #[.int i tk, x'] } (.tup [.int (i : Nat), x]))) { s with heap := h'', toks := tk + 1 } :=
      I.turnedNew (ch := [e, it]) (fun b ob hb q => (sb.2 b (fun z => hb (by simp [z]))).trans (hk b ob (fun z => hb (by simp [z])) (fun z => hb (by simp [z])) q)) hf (Nat.le_refl _) new
    refine ⟨.ref s.heap.objs.size, _, I1, rfl, ⟨_, x, _, rfl, I.hok.fresh (Nat.le_refl _), rfl, rfl, fun ys hy => by rw [I.list_inj hy hq]; exact hx⟩, ⟨⟨x', ?_⟩, hit'.1.at fun o q => (sb.2 it (Ne.symm hne)).trans q, hne⟩, fun b hb => ?_⟩
    · have e1 : ((i + 1 : Nat) : Int) = (i : Int) + 1 := by omega
      rw [e1]; exact he'
    · have hb' : b < s.heap.objs.size := by
        have e' : b = e ∨ b = it := by simpa using hb
        rcases e' with z | z
        · rw [z]; exact hel
        · rw [z]; exact hil
      rw [upd_ne (Nat.ne_of_lt hb')]
      exact (hf b hb).1
  done := by
    intro X hP hw hK hc i pins s σ H E I hf st hg
    subst hP hw hK
    obtain ⟨⟨old, he⟩, hit, hne⟩ := st
    obtain ⟨xs, hq, hx⟩ := hg
    obtain ⟨its, rv, pl, hz⟩ := I.list hq
    have p := pl.isList
    obtain ⟨f0, f1, f2, f3, f4, f5⟩ := hf it (by simp)
    have hl := rv.length
    have hend : its.toArray[i]? = none := by simp; omega
    exact wpAny_pyNext_enum_end (I.ok.hd hc) he hit p hend fun h' eb => ⟨rfl, I.turned (t' := s.toks) (fun b o hb q => eb b o hb q) f0 f1 f3 f4 f5⟩
  self := fun A i s Q E st h => let ⟨⟨_, he⟩, _⟩ := st; wpAny_pyIter_enum he h
end TN
namespace TN
open PySem PySem.Spec PyProof.Rows L2

/-! ### what is walked: soundness -/
section
variable {K : PySem.W.Frag} {G : Hp} {a b : Addr} {xs ys : List V} {ds es : List D}
theorem itok_list (h : Rd G a (.lst xs)) (f : FzA K G xs ds) : ItOk K G ds (Itl K a) := by
  intro G2 H2 s1 s2 i
  have h2 : SqL K H2 a xs := .inl (Same.rd (s1.trans s2) h)
  refine ⟨fun d hd => ?_, fun hl => ⟨xs, h2, by rw [f.length]; exact hl⟩⟩
  obtain ⟨v, hv, hf⟩ := f.get hd
  refine ⟨⟨xs, v, h2, hv⟩, fun x H3 hy => ?_⟩
  obtain ⟨rfl, hq⟩ := hy
  have := hq xs h2
  rw [hv] at this; cases this
  exact .fz (hf.mono s1)
theorem itok_tup (h : SqT K G a xs) (f : FzA K G xs ds) : ItOk K G ds (Itt K a) := by
  intro G2 H2 s1 s2 i
  have h2 : SqT K H2 a xs := Same.tp (s1.trans s2) h
  refine ⟨fun d hd => ?_, fun hl => ⟨xs, h2, by rw [f.length]; exact hl⟩⟩
  obtain ⟨v, hv, hf⟩ := f.get hd
  refine ⟨⟨xs, v, h2, hv⟩, fun x H3 hy => ?_⟩
  obtain ⟨rfl, hq⟩ := hy
  have := hq xs h2
  rw [hv] at this; cases this
  exact .fz (hf.mono s1)
theorem itok_rg (lo : Int) (n : Nat) : ItOk K G ((List.range n).map fun i => .int (lo + (i : Nat))) (Itr lo n) := by
  intro G2 H2 s1 s2 i
  refine ⟨fun d hd => ?_, fun hl => (show n ≤ i by simpa using hl)⟩
  rw [List.getElem?_map] at hd
  obtain ⟨j, hj, rfl⟩ := Option.map_eq_some_iff.mp hd
  obtain ⟨h1, h2⟩ := List.getElem?_eq_some_iff.mp hj
  have : j = i := by simpa using h2.symm
  subst this
  refine ⟨(show j < n by simpa using h1), fun x H3 hy => ?_⟩
  obtain ⟨rfl, rfl⟩ := hy
  exact .fz (.int _)
def charsD (x : Str) : List D := x.cps.toList.map fun c => .str ⟨#[c]⟩
theorem itok_str (x : Str) : ItOk K G (charsD x) (Its x) := by
  intro G2 H2 s1 s2 i
  unfold charsD
  refine ⟨fun d hd => ?_, fun hl => (show x.cps.size ≤ i by simpa using hl)⟩
  rw [List.getElem?_map] at hd
  obtain ⟨c, hc, rfl⟩ := Option.map_eq_some_iff.mp hd
  rw [Array.getElem?_toList] at hc
  refine ⟨(Array.getElem?_eq_some_iff.mp hc).1, fun y H3 hy => ?_⟩
  obtain ⟨rfl, c', hc', rfl⟩ := hy
  rw [hc] at hc'; cases hc'
  exact .fz (.str _)
/-- pairs (0, x), (1, y) .. -/
def enumD (ds : List D) : List D := ds.mapIdx fun i d => .tuple [.int (i : Nat), d]
theorem enumD_get {i : Nat} {d : D} (h : (enumD ds)[i]? = some d) : ∃ x, ds[i]? = some x ∧ d = .tuple [.int (i : Nat), x] := by
  unfold enumD at h
  rw [List.getElem?_mapIdx] at h
  obtain ⟨x, h1, rfl⟩ := Option.map_eq_some_iff.mp h
  exact ⟨x, h1, rfl⟩
theorem itok_enum (h : Rd G a (.lst xs)) (f : FzA K G xs ds) : ItOk K G (enumD ds) (IteL K a) := by
  intro G2 H2 s1 s2 i
  have h2 : SqL K H2 a xs := .inl (Same.rd (s1.trans s2) h)
  refine ⟨fun d hd => ?_, fun hl => ⟨xs, h2, by rw [f.length]; simpa [enumD] using hl⟩⟩
  obtain ⟨x, hx, rfl⟩ := enumD_get hd
  obtain ⟨v, hv, hf⟩ := f.get hx
  refine ⟨⟨xs, v, h2, hv⟩, fun y H3 hy => ?_⟩
  obtain ⟨T, z, o, rfl, hT, rfl, hd, hq⟩ := hy
  have := hq xs h2
  rw [hv] at this; cases this
  exact .tup hT hd (.cons (.int _) (.cons (hf.mono s1) .nil))
theorem itok_enumT (h : SqT K G a xs) (f : FzA K G xs ds) : ItOk K G (enumD ds) (IteT K a) := by
  intro G2 H2 s1 s2 i
  have h2 : SqT K H2 a xs := Same.tp (s1.trans s2) h
  refine ⟨fun d hd => ?_, fun hl => ⟨xs, h2, by rw [f.length]; simpa [enumD] using hl⟩⟩
  obtain ⟨x, hx, rfl⟩ := enumD_get hd
  obtain ⟨v, hv, hf⟩ := f.get hx
  refine ⟨⟨xs, v, h2, hv⟩, fun y H3 hy => ?_⟩
  obtain ⟨T, z, o, rfl, hT, rfl, hd, hq⟩ := hy
  have := hq xs h2
  rw [hv] at this; cases this
  exact .tup hT hd (.cons (.int _) (.cons (hf.mono s1) .nil))
def zipD (ds es : List D) : List D := List.zipWith (fun x y => .tuple [x, y]) ds es
theorem zipD_get {i : Nat} {d : D} (h : (zipD ds es)[i]? = some d) : ∃ x y, ds[i]? = some x ∧ es[i]? = some y ∧ d = .tuple [x, y] := by
  unfold zipD at h
  rw [List.getElem?_zipWith] at h
  split at h
  · rename_i x y h1 h2
    cases h
    exact ⟨x, y, h1, h2, rfl⟩
  · cases h
theorem zipD_end {i : Nat} (f1 : xs.length = ds.length) (f2 : ys.length = es.length) (hl : (zipD ds es).length ≤ i) : xs.length ≤ i ∨ ys.length ≤ i := by
  unfold zipD at hl
  rw [List.length_zipWith] at hl
  omega
end

/-- a list, a tuple, a text as it is walked -/
def seqD : D → Option (List D)
  | .list ds => some ds
  | .tuple ds => some ds
  | .str x => some (charsD x)
  | _ => none
section
variable {X : Cx} {tg e e2 : Expr} {c c2 : CE} {p pos : Pos}
/-- an expression's value, frozen -/
def cFz {α : Type} (c : CE) (k : D → Option α) : Rho → R α := fun ρ => (c ρ).bind fun p ρ1 => match frz p ρ1 with
  | some (d, ρ2) => match k d with
    | some a => .ok a ρ2
    | none => .bad
  | none => .bad
theorem fz_imp {α : Type} {W : WX} {k : D → Option α} {β : Type} {P : α → Rho → Hp → Hp → β → Prop} {σ : L2.St} {H : Hp} {R' : β → Hp → Prop}
    (h : ∃ (L : L2.St) (ρ : Rho) (G B : Hp), Rel X.K L B σ ρ G H ∧ Got X L W σ G B P (cFz c k ρ) R') :
    tX X W c σ H (fun v H1 => ∃ (L : L2.St) (ρ2 : Rho) (G2 B : Hp) (d : D) (a : α), k d = some a ∧ Rel X.K L B σ ρ2 G2 H1 ∧ Fz X.K G2 v d ∧ Got X L W σ G2 B P (.ok a ρ2) R') := by
  obtain ⟨L, ρ, G, B, rel, h⟩ := h
  refine ⟨L, ρ, G, B, rel, (Got.bind h).mono ?_⟩
  rintro v H1 ⟨q, ρ1, G1, _, rel1, ext1, fx1, h1⟩
  cases e1 : frz q ρ1 with
  | none => simp only [e1] at h1; exact h1.elim
  | some w =>
    obtain ⟨d, ρ2⟩ := w
    simp only [e1] at h1
    obtain ⟨G2, r2, x2, f2⟩ := fx1.frz rel1 e1
    cases e2 : k d with
    | none => simp only [e2] at h1; exact h1.elim
    | some a =>
      simp only [e2] at h1
      exact ⟨L, ρ2, G2, B, d, a, e2, r2, f2, Got.shift x2 h1⟩
def iAny (K : PySem.W.Frag) (t : TE) : TI := fun σ H R => t σ H fun v H1 => (∃ a xs, v = .ref a ∧ SqL K H1 a xs ∧ R (Itl K a) H1) ∨ (∃ a xs, v = .ref a ∧ SqT K H1 a xs ∧ R (Itt K a) H1) ∨ (∃ x, v = .str x ∧ R (Its x) H1)
theorem pi_any {t : TE} (hl : PE X e t) : PI X tg e (iAny X.K t) := by
  refine ⟨fun pins s σ H R I h => ?_⟩
  refine thn (hl.run pins s σ H _ I h) fun v s1 ⟨x, H1, I1, r1, q1⟩ => ?_
  rcases q1 with ⟨a, xs, ex, hq, q⟩ | ⟨a, xs, ex, hq, q⟩ | ⟨x', ex, q⟩
  · subst ex
    cases r1
    obtain ⟨its, rv, p, hz⟩ := I1.list hq
    refine wpAny_pyIter_list p.isList ?_
    exact pi_one (tk := s1.toks) I1 _ (turn_list a _) ⟨_, Heap.get?_push_size _ rfl, rfl, rfl⟩ q
  · subst ex
    cases r1
    obtain ⟨its, rv, p, hz⟩ := I1.tuple hq
    refine wpAny_pyIter_tuple (show s1.heap.IsTuple a its.toArray from p) ?_
    exact pi_one (tk := s1.toks) I1 _ (turn_tuple a _) ⟨_, Heap.get?_push_size _ rfl, rfl, rfl⟩ q
  · subst ex
    obtain ⟨t, rfl⟩ := r1
    cases ha : x'.cps.all (· < 128)
    · exact wpAny_pyIter_wide ha (pi_one (tk := s1.toks) I1 _ (turn_str _ x' t "str_iterator" (.inr rfl)) ⟨_, Heap.get?_push_size _ rfl, rfl, rfl⟩ q)
    · exact wpAny_pyIter_ascii ha (pi_one (tk := s1.toks) I1 _ (turn_str _ x' t "str_ascii_iterator" (.inl rfl)) ⟨_, Heap.get?_push_size _ rfl, rfl, rfl⟩ q)
def cIt (c : CE) : CI := cFz c seqD
theorem si_seq (h : SX X e c) : SI X tg e (cIt c) := fun W tk => PIimp (pi_any (h W tk)) (by
  intro σ H Q h
  obtain ⟨L, ρ, G, B, rel, h0⟩ := fz_imp h
  refine ⟨L, ρ, G, B, rel, h0.mono ?_⟩
  rintro v H1 ⟨L, ρ2, G2, B, d, ds, e1, rel2, f2, h2⟩
  cases d <;> simp only [seqD] at e1 <;> try (cases e1; done)
  · cases e1; cases f2
    exact .inr (.inr ⟨_, rfl, h2 _ H1 G2 rel2 .refl (itok_str _)⟩)
  · cases e1; cases f2 with
    | lst h1 h3 => exact .inl ⟨_, _, rfl, .inl (Same.rd rel2.sub h1), h2 _ H1 G2 rel2 .refl (itok_list h1 h3)⟩
  · cases e1; cases f2 with
    | tup h1 h3 => exact .inr (.inl ⟨_, _, rfl, Same.tp rel2.sub (sqt h1), h2 _ H1 G2 rel2 .refl (itok_tup (sqt h1) h3)⟩))
/-! range -/
def rgD (a b : Int) : List D := (List.range (b - a).toNat).map fun i => .int (a + (i : Nat))
def rgFit (a : Int) : Bool := decide (-1000000000000 ≤ a) && decide (a ≤ 1000000000000)
def cRng1 (c : CE) : CI := fun ρ => (c ρ).bind fun p ρ1 => match look p ρ1 with
  | some (.int j) => if rgFit j = true then .ok (rgD 0 j) ρ1 else .bad
  | _ => .bad
def cRng2 (c c2 : CE) : CI := fun ρ => (c ρ).bind fun p ρ1 => (c2 ρ1).bind fun q ρ2 => match look p ρ2, look q ρ2 with
  | some (.int i), some (.int j) => if rgFit i = true ∧ rgFit j = true then .ok (rgD i j) ρ2 else .bad
  | _, _ => .bad
theorem rgFit_ok {a : Int} (h : rgFit a = true) : -(2 ^ 62) ≤ a ∧ a < 2 ^ 62 := by
  simp only [rgFit, Bool.and_eq_true, decide_eq_true_eq] at h
  omega
theorem si_rng1 (hg : Gl X "range") (hm : X.mg "range" = none) (h : SX X e c) (hs : starEach [e] X.env = [(false, eval e X.env)] := by rfl) : SI X tg (.Call (.Name "range" p) [e] [] pos) (cRng1 c) := fun W tk =>
  PIimp (pi_range1 hg hm (pa_cons (h W tk) pa_nil hs) hs) (by
  rintro σ H Q ⟨L, ρ, G, B, rel, h⟩
  refine ⟨L, ρ, G, B, rel, (Got.bind h).mono ?_⟩
  rintro v H1 ⟨q, ρ1, G1, _, rel1, ext1, fx1, h1⟩
  split at h1
  · rename_i j e1
    split at h1
    · rename_i hf
      obtain ⟨f1, f2⟩ := rgFit_ok hf
      refine ⟨j, ?_, f1, f2, ?_⟩
      · rw [(fx1.look rel1 e1).int]
      · have := itok_rg (K := X.K) (G := G1) 0 (j - 0).toNat
        exact h1 _ H1 G1 rel1 .refl (by simpa [rgD] using this)
    · exact h1.elim
  · exact h1.elim)
theorem si_rng2 (hg : Gl X "range") (hm : X.mg "range" = none) (h : SX X e c) (h' : SX X e2 c2) (hs : starEach [e, e2] X.env = [(false, eval e X.env), (false, eval e2 X.env)] := by rfl) (hs2 : starEach [e2] X.env = [(false, eval e2 X.env)] := by rfl) :
    SI X tg (.Call (.Name "range" p) [e, e2] [] pos) (cRng2 c c2) := fun W tk =>
  PIimp (pi_range2 hg hm (pa_cons (h W tk) (pa_cons (h' W tk) pa_nil hs2) (by rw [hs, hs2])) hs hs2) (by
  rintro σ H Q ⟨L, ρ, G, B, rel, h⟩
  refine ⟨L, ρ, G, B, rel, (Got.bind h).mono ?_⟩
  rintro x H1 ⟨p, ρ1, G1, _, rel1, ext1, fx1, h1⟩
  refine ⟨L, ρ1, G1, B, rel1, (Got.bind h1).mono ?_⟩
  rintro y H2 ⟨q, ρ2, G2, _, rel2, ext2, fx2, h2⟩
  split at h2
  · rename_i i j e1 e2
    split at h2
    · rename_i hf
      obtain ⟨f1, f2⟩ := rgFit_ok hf.1
      obtain ⟨f3, f4⟩ := rgFit_ok hf.2
      refine ⟨i, j, ?_, ⟨f1, f2, f3, f4⟩, ?_⟩
      · rw [((fx1.mono ext2.same).look rel2 e1).int, (fx2.look rel2 e2).int]
      · exact h2 _ H2 G2 rel2 .refl (itok_rg i (j - i).toNat)
    · exact h2.elim
  · exact h2.elim)
def rgDown (a b : Int) : List D := (List.range (a - b).toNat).map fun i => .int (a + (i : Nat) * -1)
/-- range(a, b, -1) -/
def cRng3 (c c2 c3 : CE) : CI := fun ρ => (c ρ).bind fun p ρ1 => (c2 ρ1).bind fun q ρ2 => (c3 ρ2).bind fun r ρ3 => match look p ρ3, look q ρ3, look r ρ3 with
  | some (.int i), some (.int j), some (.int k) => if rgFit i = true ∧ rgFit j = true ∧ k = -1 then .ok (rgDown i j) ρ3 else .bad
  | _, _, _ => .bad
/-! enumerate -/
def iEnA (K : PySem.W.Frag) (ta : TA) : TI := fun σ H R => ta σ H fun vs H1 => (∃ a xs, vs = [.ref a] ∧ SqL K H1 a xs ∧ R (IteL K a) H1) ∨ ∃ a xs, vs = [.ref a] ∧ SqT K H1 a xs ∧ R (IteT K a) H1
theorem pi_enA {ta : TA} {tpos : Pos} {elts : List Expr} {kk : Nat} (hg : Gl X "enumerate") (hm : X.mg "enumerate" = none) (ha : PA X [e] ta) (hs : starEach [e] X.env = [(false, eval e X.env)] := by rfl) :
    PI X (.Tuple elts kk tpos) (.Call (.Name "enumerate" p) [e] [] pos) (iEnA X.K ta) := by
  refine ⟨fun pins s σ H R I h => ?_⟩
  refine Call_ (ld_blt I hg hm boot_enumerate (PyProof.Rows.callWith_type1 (thn (ha.run pos pins s σ H _ I h) fun us s1 ⟨vs, H1, I1, r1, q1⟩ => ?_) hs rfl))
  have fp2 : ∀ b ∈ [s1.heap.objs.size + 1, s1.heap.objs.size], FpOk X pins H1 b := fun b hb => by
    have e' : b = s1.heap.objs.size + 1 ∨ b = s1.heap.objs.size := by simpa using hb
    have hle : s1.heap.objs.size ≤ b := by
      rcases e' with z | z
      · rw [z]; exact Nat.le_add_right _ _
      · rw [z]; exact Nat.le_refl _
    exact I1.fpOk hle (I1.hok.fresh hle)
  rcases q1 with ⟨a, xs, ex, hq, q⟩ | ⟨a, xs, ex, hq, q⟩
  · subst ex
    cases r1 with
    | cons r rr =>
      cases rr
      cases r
      obtain ⟨its, rv, p', hz⟩ := I1.list hq
      refine call_enumerate_list p'.isList fun h' he hit hsz hk => wpAny_pyIter_enum he ?_
      have I2 : Inv X pins σ H1 { s1 with heap := h' } := I1.kept (t' := s1.toks) hk
      exact ⟨s1.heap.objs.size + 1, [s1.heap.objs.size + 1, s1.heap.objs.size], _, _, H1, rfl, I2, turn_enumL a (s1.heap.objs.size + 1) s1.heap.objs.size, ⟨⟨.none, he⟩, hit, Nat.succ_ne_self _⟩, fp2, q⟩
  · subst ex
    cases r1 with
    | cons r rr =>
      cases rr
      cases r
      obtain ⟨its, rv, p', hz⟩ := I1.tuple hq
      refine call_enumerate_tup p' fun h' he hit hsz hk => wpAny_pyIter_enum he ?_
      have I2 : Inv X pins σ H1 { s1 with heap := h' } := I1.kept (t' := s1.toks) hk
      exact ⟨s1.heap.objs.size + 1, [s1.heap.objs.size + 1, s1.heap.objs.size], _, _, H1, rfl, I2, turn_enumT a (s1.heap.objs.size + 1) s1.heap.objs.size, ⟨⟨.none, he⟩, hit, Nat.succ_ne_self _⟩, fp2, q⟩
def cEnum (c : CE) : CI := cFz c fun d => (seqOf d).map enumD
theorem si_enum {tpos : Pos} {elts : List Expr} {kk : Nat} (hg : Gl X "enumerate") (hm : X.mg "enumerate" = none) (h : SX X e c) (hs : starEach [e] X.env = [(false, eval e X.env)] := by rfl) :
    SI X (.Tuple elts kk tpos) (.Call (.Name "enumerate" p) [e] [] pos) (cEnum c) := fun W tk => PIimp (pi_enA hg hm (pa_cons (h W tk) pa_nil hs) hs) (by
  intro σ H Q h
  obtain ⟨L, ρ, G, B, rel, h0⟩ := fz_imp h
  refine ⟨L, ρ, G, B, rel, h0.mono ?_⟩
  rintro v H1 ⟨L, ρ2, G2, B, d, ds, e1, rel2, f2, h2⟩
  cases d <;> simp only [seqOf, Option.map_some, Option.map_none] at e1 <;> try (cases e1; done)
  · cases e1; cases f2 with
    | lst h1 h3 => exact .inl ⟨_, _, rfl, .inl (Same.rd rel2.sub h1), h2 _ H1 G2 rel2 .refl (itok_enum h1 h3)⟩
  · cases e1; cases f2 with
    | tup h1 h3 => exact .inr ⟨_, _, rfl, Same.tp rel2.sub (sqt h1), h2 _ H1 G2 rel2 .refl (itok_enumT (sqt h1) h3)⟩)
/-! zip -/
def cZip (c c2 : CE) : CI := fun ρ => (c ρ).bind fun p ρ1 => (c2 ρ1).bind fun q ρ2 => match frzA [p, q] ρ2 with
  | some ([.list a, .list b], ρ3) => .ok (zipD a b) ρ3
  | some ([.tuple a, .tuple b], ρ3) => .ok (zipD a b) ρ3
  | _ => .bad
def cRev (c : CE) : CI := cFz c fun d => (seqOf d).map List.reverse
end
end TN
namespace TN
open PySem PySem.Spec PyProof.Rows L2

/-! ### a list that a name owns changes -/
section
variable {K : PySem.W.Frag} {L : L2.St} {B G H : Hp} {σ : L2.St} {ρ : Rho} {d d' : D} {m : Md} {i : Nat} {a : Addr} {o : HO}
theorem Rel.mut (r : Rel K L B σ ρ G H) (hi : ρ[i]? = some (some (d, m))) (hm : m.isFz = false) (hv : σ[i]? = some (some (.ref a))) (c : Cont K G (upd H a o) a d') :
    Rel K L B σ (ρ.set i (some (d', m))) G (upd H a o) := by
  obtain ⟨v', h1, h2⟩ := r.slots i _ hi
  rw [hv] at h1; cases h1
  obtain ⟨a', e, hG, hB, _⟩ := h2.own hm
  cases e
  have hlt : i < ρ.length := (List.getElem?_eq_some_iff.mp hi).1
  refine ⟨fun b u q => ?_, fun b u q => ?_, by simpa using r.len, fun j p hp => ?_, fun j k p p' w hjk hp hp' hf hf' hw => ?_, fun j w hw => ?_⟩
  · rw [upd_ne (ne_of_none q hG)]; exact r.sub b u q
  · rw [upd_ne (ne_of_none q hB)]; exact r.base b u q
  · by_cases hj : j = i
    · subst hj
      rw [List.getElem?_set_self hlt] at hp; cases hp
      refine ⟨_, hv, ?_⟩
      cases m with
      | fz => cases hm
      | lz => cases hm
      | own => exact ⟨a, rfl, hG, hB, c⟩
      | lent => exact ⟨a, rfl, hG, hB, c⟩
    · rw [List.getElem?_set_ne (Ne.symm hj)] at hp
      obtain ⟨w, w1, w2⟩ := r.slots j p hp
      refine ⟨w, w1, w2.heap fun hf b o' eb hb => ?_⟩
      subst eb
      have : b ≠ a := fun z => by subst z; exact r.sep i j _ p _ (Ne.symm hj) hi hp hm hf hv w1
      rw [upd_ne this]; exact hb
  · have get : ∀ {j : Nat} {p : D × Md}, (ρ.set i (some (d', m)))[j]? = some (some p) → ∃ p0 : D × Md, ρ[j]? = some (some p0) ∧ p0.2 = p.2 := by
      intro j p hp
      by_cases hj : j = i
      · subst hj
        rw [List.getElem?_set_self hlt] at hp; cases hp
        exact ⟨_, hi, rfl⟩
      · rw [List.getElem?_set_ne (Ne.symm hj)] at hp
        exact ⟨p, hp, rfl⟩
    obtain ⟨p0, q0, e0⟩ := get hp
    obtain ⟨p1, q1, e1⟩ := get hp'
    exact r.sep j k p0 p1 w hjk q0 q1 (by rw [e0]; exact hf) (by rw [e1]; exact hf') hw
  · obtain ⟨w1, d1, m1, w2, w3⟩ := r.lent j w hw
    by_cases hj : j = i
    · subst hj
      rw [hi] at w2; cases w2
      exact ⟨w1, d', m, List.getElem?_set_self hlt, w3⟩
    · exact ⟨w1, d1, m1, by rw [List.getElem?_set_ne (Ne.symm hj)]; exact w2, w3⟩
end
/-- the list or dict that name i owns or was lent -/
def ownAt (i : Nat) (ρ : Rho) : Option (D × Md) := match ρ[i]? with
  | some (some (d, .own)) => some (d, .own)
  | some (some (d, .lent)) => some (d, .lent)
  | _ => none
theorem ownAt_ok {i : Nat} {ρ : Rho} {p : D × Md} (h : ownAt i ρ = some p) : ρ[i]? = some (some p) ∧ p.2.isFz = false := by
  unfold ownAt at h
  split at h
  · rename_i e; cases h; exact ⟨e, rfl⟩
  · rename_i e; cases h; exact ⟨e, rfl⟩
  · cases h
/-- what a method that changes its list does: the new content, what it gives -/
def MutOk (K : PySem.W.Frag) (r : V → List V → Hp → VK → Prop) (f : D → List D → Option (D × D)) : Prop := ∀ (G H : Hp) (a : Addr) (d : D) (xs : List V) (ds : List D) (d' y : D) (Q : VK), Same G H → G a = none → Cont K G H a d → FzA K G xs ds → f d ds = some (d', y) →
  (∀ v o, Cont K G (upd H a o) a d' → Fz K G v y → Q v (upd H a o)) → r (.ref a) xs H Q
/-- x.name(..), the object owned -/
def cMut (i : Nat) (f : D → List D → Option (D × D)) (ca : CA) : CE := fun ρ => (ca ρ).bind fun ps ρ1 => match frzA ps ρ1 with
  | some (ds, ρ2) => match ownAt i ρ2 with
    | some (d, m) => match f d ds with
      | some (d', y) => .ok (.val y) (ρ2.set i (some (d', m)))
      | none => .bad
    | none => .bad
  | none => .bad
section
variable {X : Cx} {e : Expr} {es : List Expr} {ca : CA} {p apos cpos : Pos} {T id : String} {x name : Str} {r : V → List V → Hp → VK → Prop} {f : D → List D → Option (D × D)} {W : WX}
/-- the receiver's value at the method's call -/
theorem mut_step {L : L2.St} {B : Hp} {σ : L2.St} {G H : Hp} {ρ : Rho} {i : Nat} {ds : List D} {xs : List V} {v : V} {Q : VK} (hr : MutOk X.K r f) (hv : σ[i]? = some (some v)) (rel : Rel X.K L B σ ρ G H) (fz : FzA X.K G xs ds)
    (h : GotP X L W σ G B (match ownAt i ρ with
      | some (d, m) => match f d ds with
        | some (d', y) => .ok (.val y) (ρ.set i (some (d', m)))
        | none => .bad
      | none => .bad) Q) : r v xs H Q := by
  cases e1 : ownAt i ρ with
  | none => simp only [e1] at h; exact h.elim
  | some p =>
    obtain ⟨d, m⟩ := p
    simp only [e1] at h
    obtain ⟨o1, o2⟩ := ownAt_ok e1
    cases e2 : f d ds with
    | none => simp only [e2] at h; exact h.elim
    | some w =>
      obtain ⟨d', y⟩ := w
      simp only [e2] at h
      obtain ⟨v', h1, h2⟩ := rel.slots i _ o1
      rw [hv] at h1; cases h1
      obtain ⟨a, rfl, hG, hB, c⟩ := h2.own o2
      exact hr G H a d xs ds d' y Q rel.sub hG c fz e2 fun v o c' fy => h v (upd H a o) G (rel.mut o1 o2 hv c') .refl fy
theorem tyV_of {K : PySem.W.Frag} {G H : Hp} {v : V} {p : D × Md} {B : Hp} (s : SlotOk K G H B v p) (sub : Same G H) (hl : ∃ ds, p.1 = .list ds) : tyV K "list" v H := by
  obtain ⟨ds, hl⟩ := hl
  have := s.vw
  rw [hl] at this
  obtain ⟨a, xs, rfl, h1, h2⟩ := this.lst sub
  exact .inl ⟨rfl, xs, .inl h1⟩
/-- the receiver is a list when the arguments are asked for: looked at there -/
def cMutL (i : Nat) (f : D → List D → Option (D × D)) (ca : CA) : CE := fun ρ => match ownAt i ρ with
  | some (.list _, _) => cMut i f ca ρ
  | _ => .bad
theorem sx_mutL (i : Nat) (pa : PlainAttrs "list") (slot : PySem.Slot "list" name id) (hty : typeOf (.builtin id) = pure (.type "method_descriptor")) (hm : MtR X id r) (hr : MutOk X.K r f) (ha : SA X (e :: es) ca)
    (hN : X.N[i]? = some x := by rfl) (hv : Vis X.env.scope x := by first | exact Or.inl rfl | exact Or.inr (Or.inl rfl) | exact Or.inr (Or.inr rfl)) (hd : (x == ("__debug__" : Str)) = false := by decide) (hcd : (x == ("__classdict__" : Str)) = false := by decide)
    (hbase : attributeBase (.Name x p) name X.env (eval (.Name x p) X.env) = eval (.Name x p) X.env := by rfl)
    (hfew : ((backTo cpos (starEach (e :: es) X.env)).all (fun x => !x.1) && (backToKw cpos (keywordEach [] X.env)).all (fun x => x.1.isSome)
      && decide ((e :: es).length + ([] : List Keyword).length + (if ([] : List Keyword).isEmpty then 0 else 1) < 30)) = true := by rfl)
    (hline : (apos.endLine == cpos.line) = true := by rfl) (hs : starEach (e :: es) X.env = (false, eval e X.env) :: starEach es X.env := by rfl) (hplain : (backTo cpos (starEach es X.env)).any (·.1) = false := by rfl) :
    SX X (.Call (.Attribute (.Name x p) name apos) (e :: es) [] cpos) (cMutL i f ca) := fun W tk =>
  PEimp (pe_bm pa slot hty hm (pe_var hN hv hd hcd) (ha W tk) hbase hfew hline hs hplain) (by
  rintro σ H Q ⟨L, ρ, G, B, rel, h⟩
  unfold cMutL at h
  split at h
  · rename_i ds m e1
    obtain ⟨o1, o2⟩ := ownAt_ok e1
    obtain ⟨v, h1, h2⟩ := rel.slots i _ o1
    refine ⟨v, h1, tyV_of h2 rel.sub ⟨_, rfl⟩, L, ρ, G, B, rel, (Got.bindA h).mono ?_⟩
    rintro xs H1 ⟨ps, ρ1, G1, _, rel1, ext1, fx1, h3⟩
    cases e2 : frzA ps ρ1 with
    | none => simp only [e2] at h3; exact h3.elim
    | some w =>
      obtain ⟨ds2, ρ2⟩ := w
      simp only [e2] at h3
      obtain ⟨G2, r2, x2, f2⟩ := fx1.frz rel1 e2
      exact mut_step (W := W) hr h1 r2 f2 (Got.shift x2 h3)
  · exact h.elim)
/-! append, extend, pop -/
theorem Cont.lstInv {K : PySem.W.Frag} {G H : Hp} {a : Addr} {ds : List D} (c : Cont K G H a (.list ds)) : ∃ xs, H a = some (.lst xs) ∧ FzA K G xs ds := by
  cases c with
  | lst h x => exact ⟨_, h, x⟩
def fAppend : D → List D → Option (D × D)
  | .list a, [x] => if a.length < 16777216 then some (.list (a ++ [x]), .none) else none
  | _, _ => none
theorem append_ok (K : PySem.W.Frag) : MutOk K rAppend fAppend := by
  intro G H a d xs ds d' y Q sub hG c fz e q
  unfold fAppend at e
  split at e
  · split at e
    · rename_i hl
      cases e
      obtain ⟨ys, h1, h2⟩ := c.lstInv
      cases fz with
      | cons f1 f2 =>
        cases f2
        exact ⟨a, ys, _, rfl, rfl, h1, by rw [h2.length, sizeLine_eq]; exact hl, q _ _ (.lst upd_same (h2.append (.cons f1 .nil))) .non⟩
    · cases e
  · cases e
theorem ext_tup (l : Addr) (items : Array Value) (n : Nat) (b : Addr) (items2 : Array Value) (n2 : Nat) (dct : Option Addr) (sl : Array (Option Value)) (hs0 : ¬(!items.isEmpty && Builtin.List.listTooLong (items.size + items2.size)) = true) (hs1 : items.size ≤ sizeLine) (hs2 : items.size + items2.size ≤ sizeLine + 1) :
    Meets (Builtin.«list.extend» ⟨[.ref l, .ref b], []⟩) (fun _ R s => s.heap.get? l = some { cls := .type "list", dict := none, data := .seq items n, slots := #[] } ∧ s.heap.get? b = some { cls := .type "tuple", dict := dct, data := .seq items2 n2, slots := sl } ∧ R (.ok (.ret Value.none)) { s with heap := s.heap.update l (Obj.mapSeq fun x => x ++ items2), toks := s.toks }) :=
  .of_wp fun prog w A R s h => by
    open AutoSeq1 in
    obtain ⟨hp, g, d, tk, os⟩ := s; obtain ⟨hl, hb, h⟩ := h; have f1 := AutoSeq1.idx_int; have f2 := AutoSeq1.sub_tuple_tuple; have f3 := AutoSeq1.sub_list_list; have f4 := AutoSeq1.sub_tuple_list; have f5 := AutoSeq1.sub_list_tuple;
    have hz' : (items ++ items2).size ≤ sizeLine + 1 := by rw [Array.size_append]; exact hs2
    wp_walk using (wpAny_updateSeq hl rfl (hz := hs1) (_hz' := hz')), wpAny_loadPart' hl, wpAny_loadPart' hb; exact ⟨_, rfl, h⟩
def rExtendA (K : PySem.W.Frag) : V → List V → Hp → VK → Prop := fun x vs H Q => ∃ l b xs zs, x = .ref l ∧ vs = [.ref b] ∧ H l = some (.lst xs) ∧ ((Rd H b (.lst zs)) ∨ SqT K H b zs) ∧ xs.length + zs.length ≤ sizeLine ∧ Q .non (upd H l (.lst (xs ++ zs)))
theorem mt_extendA : MtR X "list.extend" (rExtendA X.K) := by
  intro pins s σ H x vs v us Q I rx rv h
  obtain ⟨l, b, xs, zs, rfl, rfl, hH, hB, hz, q⟩ := h
  cases rx
  obtain ⟨u, rfl, ru⟩ := rv.one
  cases ru
  obtain ⟨z, its, n, r, hl, e⟩ := I.lstM hH
  rcases hB with hB | hB
  · obtain ⟨z2, its2, n2, r2, hl2, e2⟩ := lstR I hB
    have hsz : its.toArray.size + its2.toArray.size ≤ sizeLine := by rw [List.size_toArray, List.size_toArray]; omega
    have hlong : ¬ (!its.toArray.isEmpty && Builtin.List.listTooLong (its.toArray.size + its2.toArray.size)) = true := by
      rw [notLongL hsz, Bool.and_false]
      exact Bool.false_ne_true
    refine call_meets PySem.F.slot_list_extend ⟨_, e, rfl⟩ PySem.F.entry_list_extend (PySem.F.args_list_extend_2 _ _)
      (AutoSeq1.list_extend_list_list_0 l its.toArray n b its2.toArray n2 hlong (by rw [List.size_toArray]; omega) (by omega)) ⟨e, e2, ?_⟩
    refine ⟨.non, _, I.lset (its' := its ++ its2) hH e (by simp) (r.append r2) ?_, rfl, q⟩
    rw [List.length_append]
    omega
  · obtain ⟨its2, r2, ⟨⟨c2, dct, dt, sl⟩, e2, hc2, n2, hd2⟩, z2⟩ := I.tuple hB
    replace hc2 : c2 = .type "tuple" := hc2
    replace hd2 : dt = .seq its2.toArray n2 := hd2
    subst hc2 hd2
    have hl2 := r2.length
    have hsz : its.toArray.size + its2.toArray.size ≤ sizeLine := by rw [List.size_toArray, List.size_toArray]; omega
    have hlong : ¬ (!its.toArray.isEmpty && Builtin.List.listTooLong (its.toArray.size + its2.toArray.size)) = true := by
      rw [notLongL hsz, Bool.and_false]
      exact Bool.false_ne_true
    refine call_meets PySem.F.slot_list_extend ⟨_, e, rfl⟩ PySem.F.entry_list_extend (PySem.F.args_list_extend_2 _ _)
      (ext_tup l its.toArray n b its2.toArray n2 dct sl hlong (by rw [List.size_toArray]; omega) (by omega)) ⟨e, e2, ?_⟩
    refine ⟨.non, _, I.lset (its' := its ++ its2) hH e (by simp) (r.append r2) ?_, rfl, q⟩
    rw [List.length_append]
    omega
def fExtend : D → List D → Option (D × D)
  | .list a, [.list b] => if a.length + b.length ≤ 16777216 then some (.list (a ++ b), .none) else none
  | .list a, [.tuple b] => if a.length + b.length ≤ 16777216 then some (.list (a ++ b), .none) else none
  | _, _ => none
theorem extend_ok (K : PySem.W.Frag) : MutOk K (rExtendA K) fExtend := by
  intro G H a d xs ds d' y Q sub hG c fz e q
  unfold fExtend at e
  split at e
  · split at e
    · rename_i hl
      cases e
      obtain ⟨ys, h1, h2⟩ := c.lstInv
      cases fz with
      | cons f1 f2 =>
        cases f2
        cases f1 with
        | lst g1 g2 => exact ⟨a, _, ys, _, rfl, rfl, h1, .inl (Same.rd sub g1), by rw [h2.length, g2.length, sizeLine_eq]; exact hl, q _ _ (.lst upd_same (h2.append g2)) .non⟩
    · cases e
  · split at e
    · rename_i hl
      cases e
      obtain ⟨ys, h1, h2⟩ := c.lstInv
      cases fz with
      | cons f1 f2 =>
        cases f2
        cases f1 with
        | tup g1 g2 => exact ⟨a, _, ys, _, rfl, rfl, h1, .inr (Same.tp sub (sqt g1)), by rw [h2.length, g2.length, sizeLine_eq]; exact hl, q _ _ (.lst upd_same (h2.append g2)) .non⟩
    · cases e
  · cases e
def fPop : D → List D → Option (D × D)
  | .list a, [] => match a[a.length - 1]? with
    | some y => some (.list a.dropLast, y)
    | none => none
  | .list a, [.int i] => if a.length ≤ 16777216 then match ixN a.length i with
    | some k => match a[k]? with
      | some y => some (.list (a.eraseIdx k), y)
      | none => none
    | none => none
    else none
  | _, _ => none
theorem mt_popA : MtR X "list.pop" (fun x vs H Q => rPop x vs H Q ∨ rPopAt x vs H Q) := MtR.or mt_pop mt_popAt
theorem pop_ok (K : PySem.W.Frag) : MutOk K (fun x vs H Q => rPop x vs H Q ∨ rPopAt x vs H Q) fPop := by
  intro G H a d xs ds d' y Q sub hG c fz e q
  unfold fPop at e
  split at e
  · split at e
    · rename_i hy
      cases e
      obtain ⟨ys, h1, h2⟩ := c.lstInv
      cases fz
      obtain ⟨v, hv, fv⟩ := h2.get hy
      exact .inl ⟨a, ys, v, rfl, rfl, h1, by rw [h2.length]; exact hv, q _ _ (.lst upd_same h2.dropLast) fv⟩
    · cases e
  · split at e
    · rename_i hl
      split at e
      · rename_i k hk
        split at e
        · rename_i hy
          cases e
          obtain ⟨ys, h1, h2⟩ := c.lstInv
          cases fz with
          | cons f1 f2 =>
            cases f2
            cases f1
            obtain ⟨v, hv, fv⟩ := h2.get hy
            rw [← h2.length] at hk hl
            obtain ⟨k1, k2, k3, k4⟩ := ixN_seq hk
            exact .inr ⟨a, ys, _, k, v, rfl, rfl, h1, by omega, by omega, k1, hv, q _ _ (.lst upd_same (h2.eraseIdx k)) fv⟩
        · cases e
      · cases e
    · cases e
  · cases e
end
end TN
namespace TN
open PySem PySem.Spec PyProof.Rows L2

/-! ### x[k] = v -/
def PutOk (K : PySem.W.Frag) (t : TSet) (f : D → D → D → Option D) : Prop := ∀ (G H : Hp) (a : Addr) (c k d c' : D) (kv dv : V) (Q : Hp → Prop), Same G H → G a = none → Cont K G H a c → Fz K G kv k → Fz K G dv d → f c k d = some c' →
  (∀ o, Cont K G (upd H a o) a c' → Q (upd H a o)) → t (.ref a) kv dv H Q
/-- the place's own list, the key, the value -/
def gPut (i : Nat) (f : D → D → D → Option D) (ck : CE) : D → Rho → Option Rho := fun d ρ => match ownAt i ρ with
  | none => none
  | some _ => match cFz ck some ρ with
    | .ok k ρ2 => match ownAt i ρ2 with
      | some (c, m) => match f c k d with
        | some c' => some (ρ2.set i (some (c', m)))
        | none => none
      | none => none
    | _ => none
section
variable {X : Cx} {x : Str} {k : Expr} {ck c : CE} {p pos : Pos} {t : TSet} {f : D → D → D → Option D} {W : WX}
theorem fz_run {L : L2.St} {B : Hp} {σ : L2.St} {G H : Hp} {ρ ρ2 : Rho} {d : D} (rel : Rel X.K L B σ ρ G H) (h : cFz c some ρ = .ok d ρ2) :
    tX X W c σ H (fun v H1 => ∃ G2, Rel X.K L B σ ρ2 G2 H1 ∧ Ext B G G2 ∧ Fz X.K G2 v d) := by
  refine ⟨L, ρ, G, B, rel, ?_⟩
  unfold cFz at h
  cases q : c ρ with
  | bad => rw [q] at h; cases h
  | exc y ρ1 => rw [q] at h; cases h
  | ok a ρ1 =>
    rw [q] at h
    intro v H1 G1 rel1 ext1 ok
    obtain ⟨G2, r2, x2, fx2⟩ := ok.fix rel1
    simp only [R.bind] at h
    cases e : frz a ρ1 with
    | none => simp only [e] at h; cases h
    | some w =>
      obtain ⟨d', ρ'⟩ := w
      simp only [e, R.ok.injEq] at h
      obtain ⟨rfl, rfl⟩ := h
      obtain ⟨G3, r3, x3, f3⟩ := fx2.frz r2 e
      exact ⟨G3, r3, ext1.trans (x2.trans x3), f3⟩
theorem own_val {K : PySem.W.Frag} {L : L2.St} {B : Hp} {σ : L2.St} {G H : Hp} {ρ : Rho} {i : Nat} {q : D × Md} (rel : Rel K L B σ ρ G H) (h : ownAt i ρ = some q) : ∃ v, σ[i]? = some (some v) := by
  obtain ⟨o1, _⟩ := ownAt_ok h
  obtain ⟨v, h1, _⟩ := rel.slots i _ o1
  exact ⟨v, h1⟩
/-- the walk up to the store, from a frozen value -/
theorem put_step {L : L2.St} {B : Hp} {σ : L2.St} {G H : Hp} {ρ : Rho} {i : Nat} {d key : D} {v kv dv : V} {Q : Hp → Prop} (hp : PutOk X.K t f) (hv : σ[i]? = some (some v)) (rel : Rel X.K L B σ ρ G H) (fk : Fz X.K G kv key) (fd : Fz X.K G dv d) {c c' : D} {m : Md}
    (e1 : ownAt i ρ = some (c, m)) (e2 : f c key d = some c') (q : ∀ H', Rel X.K L B σ (ρ.set i (some (c', m))) G H' → Q H') : t v kv dv H Q := by
  obtain ⟨o1, o2⟩ := ownAt_ok e1
  obtain ⟨v', h1, h2⟩ := rel.slots i _ o1
  rw [hv] at h1; cases h1
  obtain ⟨a, rfl, hG, hB, ct⟩ := h2.own o2
  exact hp G H a c key d c' kv dv Q rel.sub hG ct fk fd e2 fun o c2 => q _ (rel.mut o1 o2 hv c2)
theorem sg_put (i : Nat) (ht : PSet X t) (hp : PutOk X.K t f) (hk : SX X k ck) (hN : X.N[i]? = some x := by rfl) (hv : Vis X.env.scope x := by first | exact Or.inl rfl | exact Or.inr (Or.inl rfl) | exact Or.inr (Or.inr rfl)) (hd : (x == ("__debug__" : Str)) = false := by decide) (hcd : (x == ("__classdict__" : Str)) = false := by decide)
    (ha : ∀ v, assign (.Subscript (.Name x p) k pos) X.env v = (do
      let ov ← holding [v] (eval (.Name x p) X.env)
      let iv ← holding [v, ov] (eval k X.env)
      standAt pos
      holding [v, ov, iv] (setItem ov iv v)
      release [v, ov, iv] []) := by intro _; rfl) : SG X (.Subscript (.Name x p) k pos) [] (gPut i f ck) := PGimp (pg_sub (pe_var hN hv hd hcd) (hk Wf takes0) ht ha) (by
  rintro v σ H Q ⟨L, ρ, G, B, d, rel, fz, h⟩
  unfold gPut at h
  cases e0 : ownAt i ρ with
  | none => simp only [e0] at h
  | some o0 =>
    simp only [e0] at h
    obtain ⟨w, hw⟩ := own_val rel e0
    cases e1 : cFz ck some ρ with
    | bad => simp only [e1] at h
    | exc y ρ1 => simp only [e1] at h
    | ok key ρ2 =>
      simp only [e1] at h
      cases e3 : ownAt i ρ2 with
      | none => simp only [e3] at h
      | some cm =>
        obtain ⟨c, m⟩ := cm
        simp only [e3] at h
        cases e4 : f c key d with
        | none => simp only [e4] at h
        | some c' =>
          simp only [e4] at h
          refine ⟨w, hw, ?_⟩
          obtain ⟨L', ρ', G', B', rl, gg⟩ := fz_run (W := Wf) rel e1
          refine ⟨L', ρ', G', B', rl, gg.mono ?_⟩
          rintro kv H2 ⟨G2, r2, x2, fk⟩
          exact put_step hp hw r2 fk (fz.mono x2.same) e3 e4 fun H' r3 => h σ H' G2 r3 x2 ⟨rfl, fun _ _ => rfl⟩)
/-- x op= e of ints -/
def cAugI (i : Nat) (g : Int → Int → Int) (c : CE) : CS := fun ρ => match look (.slot i) ρ with
  | some (.int a) => (c ρ).toS fun p ρ1 => match look p ρ1 with
    | some (.int b) => match store i (.val (.int (g a b))) ρ1 with
      | some ρ2 => .nx ρ2
      | none => .bad
    | _ => .bad
  | _ => .bad
/-! ### xs[k] += e -/
def cAugS (i : Nat) (f : D → D → D → Option D) (g : Int → Int → Int) (ck ce : CE) : CS := fun ρ => match ownAt i ρ with
  | none => .bad
  | some _ => (ck ρ).toS fun p ρ1 => match look p ρ1, ownAt i ρ1 with
    | some (.int k), some (.list a, _) => match atI a k with
      | some (.int n) => (ce ρ1).toS fun q ρ2 => match look q ρ2, ownAt i ρ2 with
        | some (.int b), some (c, m) => match f c (.int k) (.int (g n b)) with
          | some c' => .nx (ρ2.set i (some (c', m)))
          | none => .bad
        | _, _ => .bad
      | _ => .bad
    | _, _ => .bad
/-! lists -/
def putL : D → D → D → Option D
  | .list a, .int k, d => match ixN a.length k with
    | some j => some (.list (a.set j d))
    | none => none
  | _, _, _ => none
theorem putL_ok (K : PySem.W.Frag) : PutOk K rSetL putL := by
  intro G H a c k d c' kv dv Q sub hG ct fk fd e q
  unfold putL at e
  split at e
  · split at e
    · rename_i j hj
      cases e
      obtain ⟨xs, h1, h2⟩ := ct.lstInv
      cases fk
      exact ⟨a, xs, _, j, rfl, rfl, h1, by rw [h2.length]; exact hj, q _ (.lst upd_same (h2.set j fd))⟩
    · cases e
  · cases e
/-! dicts -/
theorem PSet_or {X : Cx} {t t' : TSet} (h : PSet X t) (h' : PSet X t') : PSet X (fun o i v H Q => t o i v H Q ∨ t' o i v H Q) := by
  intro pins s σ H o i v ov iv u Q I ro ri rv q
  rcases q with q | q
  · exact h pins s σ H o i v ov iv u Q I ro ri rv q
  · exact h' pins s σ H o i v ov iv u Q I ro ri rv q
def putA : D → D → D → Option D
  | .dict es, k, d => (dPut es k d).map .dict
  | c, k, d => putL c k d
def rSetA : TSet := fun o i v H Q => rSetL o i v H Q ∨ (rSetD o i v H Q ∨ rSetX o i v H Q)
theorem set_any {X : Cx} (hu : X.A.units + 65 < cLine) : PSet X rSetA := PSet_or set_list (PSet_or (set_dict (by omega)) (set_dictX (by omega)))
theorem putA_ok (K : PySem.W.Frag) : PutOk K rSetA putA := by
  intro G H a c k d c' kv dv Q sub hG ct fk fd e q
  cases c
  case dict es =>
    have e : (dPut es k d).map PyData.dict = some c' := e
    cases hp : dPut es k d with
    | none => rw [hp] at e; cases e
    | some es2 =>
      rw [hp] at e
      cases e
      cases ct with
      | dK e1 f =>
        rename_i kvs
        unfold dPut at hp
        split at hp
        · cases hp
        · exact f.nomark.elim
        · cases hk : ckOf k with
          | none => rw [hk] at hp; cases hp
          | some key =>
            rw [hk] at hp
            simp only at hp
            split at hp
            · rename_i hl
              cases hp
              exact .inr (.inl ⟨a, _, rfl, .inl ⟨kvs, key, e1, fk.key hk, by rw [f.length, sizeLine_eq]; exact hl, rfl⟩, q _ (.dK upd_same (f.put fd))⟩)
            · cases hp
      | ob e1 o f => exact absurd (show (none : Option (List (D × D))) = some es2 from hp) (by simp)
      | dT e1 f =>
        rename_i kvs es'
        unfold dPut at hp
        simp only at hp
        cases hk : tkOf k with
        | none => rw [hk] at hp; cases hp
        | some key =>
          rw [hk] at hp
          simp only at hp
          split at hp
          · rename_i hl
            cases hp
            obtain ⟨b, rfl, hb⟩ := fk.tkey hk
            exact .inr (.inr ⟨a, _, rfl, ⟨kvs, key, b, e1, fun r hr => (f.kt r hr).mono sub, rfl, hb.mono sub, tkOf_ints hk, by rw [f.length, sizeLine_eq]; exact hl, rfl⟩, q _ (.dT upd_same (f.put (tkOf_ints hk) hb fd))⟩)
          · cases hp
  all_goals exact .inl (putL_ok K G H a _ k d c' kv dv Q sub hG ct fk fd e q)
/-! a, b = x, y -/
def cPar (i j : Nat) (a b : CE) : CS := fun ρ => match cCons a (cCons b cNil) ρ with
  | .ok ps ρ1 => match frzA ps ρ1 with
    | some ([d, e], ρ2) => match store i (.val d) ρ2 with
      | some ρ3 => match store j (.val e) ρ3 with
        | some ρ4 => .nx ρ4
        | none => .bad
      | none => .bad
    | _ => .bad
  | .exc x ρ1 => .exc x ρ1
  | .bad => .bad
end
end TN
namespace TN
open PySem PySem.Spec PyProof.Rows L2

/-! ### methods that change nothing -/
def tyOk (T : String) (d : D) : Bool := (match d with | .list _ => T == "list" | .str _ => T == "str" | .int _ => T == "int" | _ => false)
def cMt (T : String) (f : D → List D → Option Pl) (co : CE) (ca : CA) : CE := fun ρ => (co ρ).bind fun p ρ1 => match look p ρ1 with
  | some d0 => if tyOk T d0 = true then (ca ρ1).bind fun ps ρ2 => match look p ρ2, lookA ps ρ2 with
    | some d, some ds => .ofOpt (f d ds) ρ2
    | _, _ => .bad
    else .bad
  | none => .bad
section
variable {X : Cx} {o e : Expr} {es : List Expr} {co : CE} {ca : CA} {p apos cpos : Pos} {T id : String} {name : Str} {r : V → List V → Hp → VK → Prop} {f : D → List D → Option Pl} {W : WX}
/-! list.index, list.count -/
/-! xs[::-1] -/
end
end TN
namespace TN
open PySem PySem.Spec PyProof.Rows L2

/-! ### defs by their meanings -/
structure Callee (P : Program) (w : World) (K : PySem.W.Frag) (mg : Str → Option Value) (base : Heap) (k : Nat) (x : Str) (n : Nat) (M : FM) : Prop where
  ex : ∃ (f : Addr) (fd : FuncData) (pn : List Str), FnOk P w K mg base (L2.CX P w) k f fd pn (spF K mg n M) ∧ mg x = some (.ref f) ∧ PySem.W.keepIn K (.ref f) = true ∧ Binds K fd pn []
theorem Callee.up {P : Program} {w : World} {K : PySem.W.Frag} {mg : Str → Option Value} {base : Heap} {k : Nat} {x : Str} {n : Nat} {M : FM} (c : Callee P w K mg base k x n M) {j : Nat} (h : k ≤ j) : Callee P w K mg base j x n M := by
  obtain ⟨f, fd, pn, h1, h2, h3, h4⟩ := c.ex
  exact ⟨f, fd, pn, h1.mono h, h2, h3, h4⟩
section
variable {X : Cx} {k n : Nat} {M : FM} {x : Str} {p pos : Pos} {e : Expr} {es : List Expr} {cr : CA}
theorem sx_callC (C : Callee X.prog X.w X.K X.mg X.base k x n M) (hr : Room k X.A) (hg : Gl X x) (hl : LenA cr n) (ha : SA X (e :: es) cr)
    (hdb : (x == ("__debug__" : Str)) = false := by decide) (he : starEach (e :: es) X.env = (false, eval e X.env) :: starEach es X.env := by rfl) (hpl : (backTo pos (starEach es X.env)).any (·.1) = false := by rfl) :
    SX X (.Call (.Name x p) (e :: es) [] pos) (cCall M cr) := by
  obtain ⟨f, fd, pn, h1, h2, h3, h4⟩ := C.ex
  exact sx_call h1 hr hg h2 h3 h4 hl ha hdb he hpl
theorem u64 (hr : Room k X.A) : X.A.units + 64 < cLine := hr.units
end
/-- a def's promise as a callee -/
theorem calleeOf {P : Program} {w : World} {K : PySem.W.Frag} {mg : Str → Option Value} {base : Heap} {x qual : Str} {params : Arguments} {body : List Stmt} {scope : Scope} {f : Addr} {fd : FuncData} {k : Nat} {N ps : List Str} {c : CS}
    (F : FunD K x qual params body scope [] [] f fd) (S : FnScope N ps scope) (hm : mg x = some (.ref f))
    (hb : ∀ (kV doc pm : Value) (an : Option Addr) (cdv ct : Value) (us : List Value), us.length = ps.length → bindArgs (PySem.W.fnOf x qual params body scope .none kV doc pm an cdv ct) ⟨us, []⟩ = pure (ps.zip us))
    (h : ∀ (cdv : Value) (A : Around) (outer : List Env) (s : Shared) (H : Hp) (E : XK), Room k (A.deeper (envOfC qual scope s.heap.objs.size f cdv)) → SSs (cxOf (L2.CX P w) P w K mg base N qual scope f cdv A outer s H E) body c) :
    Callee P w K mg base (k + 1) x ps.length (mkF ps.length N.length c) :=
  ⟨f, fd, ps, fn_sound F S h, hm, F.kp, F.bindsN hb⟩

/-! ### the head: facts of a part of the heap without lists -/
theorem NoLst.rd {K : PySem.W.Frag} (n : NoLst K) {H : Hp} {a : Addr} {xs : List V} (h : SqL K H a xs) : Rd H a (.lst xs) := by
  rcases h with h | ⟨o, its, m, h1, h2, h3, h4, _⟩
  · exact h
  · have := n a o h1
    unfold isLst at this
    rw [h2, h4] at this
    cases this
end TN
namespace TN
open PySem PySem.Spec PyProof.Rows L2

/-! ### t[::-1] -/
section
variable {prog : Program} {w : World} {A : Around} {E : Value → Shared → Prop} {s : Shared}
end
section
variable {X : Cx}
end
end TN
namespace TN
open PySem PySem.Spec PyProof.Rows L2
def kindEq : NameKind → NameKind → Bool := fun a b => decide (a = b)
def lookIs (ns : List (Str × NameKind)) (x : Str) (k : NameKind) : Bool := decide (ns.lookup x = some k)
def blkB (N : List Str) (sc scope : Scope) (own : List (Str × Nat)) : Bool :=
  decide (scope.kind = .function) && (scope.names.all (fun y => lookIs scope.names y.1 y.2) && (own.all (fun p => decide (N[p.2]? = some p.1)) &&
    (scope.names.all (fun y => !kindEq y.2 .free || (lookIs sc.names y.1 .cell || lookIs sc.names y.1 .free)) &&
      scope.names.all (fun y => !(kindEq y.2 .local || kindEq y.2 .cell) || (decide (y.1 ∈ own.map (·.1)) || decide (y.1 ∉ N))))))
theorem blkB_ok {N : List Str} {sc scope : Scope} {own : List (Str × Nat)} (h : blkB N sc scope own = true) : BlkOk N sc scope own := by
  simp only [blkB, Bool.and_eq_true, List.all_eq_true, decide_eq_true_eq, Bool.or_eq_true, Bool.not_eq_true', lookIs, kindEq] at h
  obtain ⟨h1, h2, h3, h4, h5⟩ := h
  refine ⟨h1, h2, h3, fun y hy e => ?_, fun y hy e => ?_⟩
  · rcases h4 y hy with z | z
    · simp [e] at z
    · exact z
  · rcases h5 y hy with z | z
    · rcases e with e | e <;> simp [e] at z
    · exact z
end TN
namespace TN
open PySem PySem.Spec PyProof.Rows L2

/-! ### f(g(..), ..): the first argument a new list, lent -/
section
variable {K : PySem.W.Frag} {L : L2.St} {B G H : Hp} {σ : L2.St} {ρ ρ' : Rho} {x : Option V} {v : V} {d : D} {a : Addr}
theorem app_get {α : Type} {l : List α} {x y : α} {i : Nat} (h : (l ++ [x])[i]? = some y) : (i < l.length ∧ l[i]? = some y) ∨ (i = l.length ∧ x = y) := by
  by_cases hi : i < l.length
  · rw [List.getElem?_append_left hi] at h; exact .inl ⟨hi, h⟩
  · rw [List.getElem?_append_right (by omega)] at h
    have : i - l.length = 0 := by
      have := (List.getElem?_eq_some_iff.mp h).1
      simp at this; omega
    rw [this] at h
    simp at h
    exact .inr ⟨by omega, h⟩
theorem app_getI {α : Type} {l : List α} {x y : α} {i : Nat} (h : l[i]? = some y) : (l ++ [x])[i]? = some y := by
  rw [List.getElem?_append_left (List.getElem?_eq_some_iff.mp h).1]; exact h
theorem Rel.more (r : Rel K L B σ ρ G H) (h1 : G a = none) (h2 : B a = none) (c : Cont K G H a d) (hs : ∀ (j : Nat) (p : D × Md), ρ[j]? = some (some p) → p.2.isFz = false → σ[j]? ≠ some (some (.ref a))) :
    Rel K L B (σ ++ [some (.ref a)]) (ρ ++ [some (d, .own)]) G H := by
  refine ⟨r.sub, r.base, by simp [r.len], fun i p hp => ?_, fun i j p q v hij hp hq hf hf' hv hv' => ?_, fun j v hj => ?_⟩
  · rcases app_get hp with ⟨hi, hp⟩ | ⟨hi, e⟩
    · obtain ⟨v, h3, h4⟩ := r.slots i p hp
      exact ⟨v, app_getI h3, h4⟩
    · cases e
      refine ⟨.ref a, ?_, a, rfl, h1, h2, c⟩
      rw [hi, r.len, List.getElem?_append_right (Nat.le_refl _)]; simp
  · rcases app_get hp with ⟨hi, hp⟩ | ⟨hi, e⟩
    · rcases app_get hq with ⟨hj, hq⟩ | ⟨hj, e'⟩
      · rcases app_get hv with ⟨_, hv⟩ | ⟨z, _⟩
        · rcases app_get hv' with ⟨_, hv'⟩ | ⟨z, _⟩
          · exact r.sep i j p q v hij hp hq hf hf' hv hv'
          · rw [← r.len] at z; omega
        · rw [← r.len] at z; omega
      · cases e'
        rcases app_get hv with ⟨_, hv⟩ | ⟨z, _⟩
        · rcases app_get hv' with ⟨z, _⟩ | ⟨_, z⟩
          · rw [← r.len] at z; omega
          · cases z; exact hs i p hp hf hv
        · rw [← r.len] at z; omega
    · cases e
      rcases app_get hq with ⟨hj, hq⟩ | ⟨hj, e'⟩
      · rcases app_get hv with ⟨z, _⟩ | ⟨_, z⟩
        · rw [← r.len] at z; omega
        · cases z
          rcases app_get hv' with ⟨_, hv'⟩ | ⟨z, _⟩
          · exact hs j q hq hf' hv'
          · rw [← r.len] at z; omega
      · omega
  · obtain ⟨h3, d', m, h4, h5⟩ := r.lent j v hj
    exact ⟨app_getI h3, d', m, app_getI h4, h5⟩
theorem Rel.less (r : Rel K L B (σ ++ [x]) ρ' G H) (hL : ∀ (j : Nat) (v : V), L[j]? = some (some v) → j < σ.length) : Rel K L B σ (ρ'.take σ.length) G H := by
  have tk : ∀ {i : Nat} {s : Slot}, (ρ'.take σ.length)[i]? = some s → i < σ.length ∧ ρ'[i]? = some s := fun {i s} h => by
    rw [List.getElem?_take] at h
    split at h
    · rename_i hi; exact ⟨hi, h⟩
    · cases h
  have ap : ∀ {i : Nat}, i < σ.length → (σ ++ [x])[i]? = σ[i]? := fun hi => List.getElem?_append_left hi
  refine ⟨r.sub, r.base, ?_, fun i p hp => ?_, fun i j p q v hij hp hq hf hf' hv => ?_, fun j v hj => ?_⟩
  · have := r.len
    simp at this
    rw [List.length_take]; omega
  · obtain ⟨hi, hp⟩ := tk hp
    obtain ⟨v, h1, h2⟩ := r.slots i p hp
    exact ⟨v, by rw [← ap hi]; exact h1, h2⟩
  · obtain ⟨hi, hp⟩ := tk hp
    obtain ⟨hj, hq⟩ := tk hq
    rw [← ap hi] at hv
    rw [← ap hj]
    exact r.sep i j p q v hij hp hq hf hf' hv
  · obtain ⟨h1, d, m, h2, h3⟩ := r.lent j v hj
    have hi := hL j v hj
    exact ⟨by rw [← ap hi]; exact h1, d, m, by rw [List.getElem?_take_of_lt hi]; exact h2, h3⟩
theorem PlA.more : ∀ {vs : List V} {ps : List Pl}, PlA K σ G vs ps → PlA K (σ ++ [x]) G vs ps
  | _, _, .nil => .nil
  | _, _, .cons (p := p) h t => .cons (by
      cases p with
      | val d => exact h
      | tmp d => exact h
      | slot i => exact app_getI (show σ[i]? = some (some _) from h)) t.more
end
section
variable {X : Cx} {k n : Nat} {f : Addr} {fd : FuncData} {pn : List Str} {M : FM} {x : Str} {p pos : Pos} {e : Expr} {es : List Expr} {ce : CE} {cr : CA}
end
end TN
namespace TN
open PySem PySem.Spec PyProof.Rows L2

/-! ### calls, plainly -/
def noSlot : Pl → Bool
  | .slot _ => false
  | _ => true
theorem outAt_no {j : Nat} : ∀ {ps : List Pl} {outs : List Slot}, ps.all noSlot = true → outAt j ps outs = none
  | [], _, _ => by unfold outAt; rfl
  | p :: ps, [], _ => by unfold outAt; rfl
  | p :: ps, o :: os, h => by
    simp only [List.all_cons, Bool.and_eq_true] at h
    unfold outAt
    rw [if_neg, outAt_no h.2]
    cases p with
    | slot i => simp [noSlot] at h
    | val d => exact Bool.false_ne_true
    | tmp d => exact Bool.false_ne_true
theorem gbAt_none {ps : List Pl} {outs : List Slot} {j : Nat} (h : outAt j ps outs = none) (s : Slot) : gbAt ps outs j s = s := by
  unfold gbAt
  split <;> first | rfl | (rw [h])
theorem gb_no {ps : List Pl} {outs : List Slot} (h : ps.all noSlot = true) : ∀ (ρ : Rho) (j : Nat), gb ps outs j ρ = ρ
  | [], _ => rfl
  | s :: r, j => by
    unfold gb
    rw [gb_no h r (j + 1), gbAt_none (outAt_no h)]
theorem noDup_no {ps : List Pl} (h : ps.all noSlot = true) : noDup ps = true := by
  induction ps with
  | nil => rfl
  | cons p ps ih =>
    simp only [List.all_cons, Bool.and_eq_true] at h
    cases p with
    | slot i => exact absurd h.1 Bool.false_ne_true
    | val d => exact ih h.2
    | tmp d => exact ih h.2
theorem callM_no {M : FM} {ps : List Pl} {ρ : Rho} {as : List (D × Md)} {d : D} {fr : Bool} (h : ps.all noSlot = true) (ha : argsOf ps ρ = some as) (hM : ∃ outs, M as = .ok d fr outs) : callM M ps ρ = .ok (plR d fr) ρ := by
  obtain ⟨outs, hM⟩ := hM
  unfold callM
  simp only [ha, noDup_no h, if_true, hM, gb_no h]
theorem outAt_only {i j : Nat} (hij : j ≠ i) : ∀ {ps : List Pl} {outs : List Slot}, ps.all (fun p => noSlot p || isSlot i p) = true → outAt j ps outs = none
  | [], _, _ => by unfold outAt; rfl
  | p :: ps, [], _ => by unfold outAt; rfl
  | p :: ps, o :: os, h => by
    simp only [List.all_cons, Bool.and_eq_true] at h
    unfold outAt
    rw [if_neg, outAt_only hij h.2]
    intro z
    rw [isSlot_iff] at z
    subst z
    have := h.1
    simp [noSlot] at this
    have := isSlot_iff.mp this
    cases this
    exact hij rfl
theorem gb_set {i : Nat} {ps : List Pl} {outs : List Slot} {ρ : Rho} {d d' : D} {m : Md} (hi : ρ[i]? = some (some (d, m))) (hm : m = .own ∨ m = .lent) (h1 : ps.all (fun p => noSlot p || isSlot i p) = true) (ho : outAt i ps outs = some (some (d', .lent))) :
    gb ps outs 0 ρ = ρ.set i (some (d', m)) := by
  apply List.ext_getElem?
  intro j
  rw [gb_get, Nat.zero_add]
  by_cases hj : j = i
  · subst hj
    rw [hi, List.getElem?_set_self (List.getElem?_eq_some_iff.mp hi).1]
    rcases hm with rfl | rfl <;> simp only [Option.map_some, gbAt, ho]
  · rw [List.getElem?_set_ne (Ne.symm hj)]
    cases q : ρ[j]? with
    | none => rfl
    | some s => rw [Option.map_some, gbAt_none (outAt_only hj h1)]
theorem callM_lent {M : FM} {i : Nat} {ps : List Pl} {outs : List Slot} {ρ : Rho} {as : List (D × Md)} {r d d' : D} {fr : Bool} {m : Md} (hi : ρ[i]? = some (some (d, m))) (hm : m = .own ∨ m = .lent) (h1 : ps.all (fun p => noSlot p || isSlot i p) = true) (nd : noDup ps = true)
    (ha : argsOf ps ρ = some as) (hM : M as = .ok r fr outs) (ho : outAt i ps outs = some (some (d', .lent))) : callM M ps ρ = .ok (plR r fr) (ρ.set i (some (d', m))) := by
  unfold callM
  simp only [ha, nd, if_true, hM, gb_set hi hm h1 ho]

/-! ### loops, plainly -/
/-- a comprehension without tests, its element's value frozen; the state may change (draws) -/
def accF {α σ : Type} (step : σ → α → σ) (out : σ → α → D) : List α → σ → List D
  | [], _ => []
  | x :: xs, s => out s x :: accF step out xs (step s x)
def tTrue : CB := fun ρ => .ok true ρ
def RS.rv : RS → Option (D × Bool)
  | .ret d fr _ => some (d, fr)
  | _ => none
def FR.rv : FR → Option (D × Bool)
  | .ok d fr _ => some (d, fr)
  | _ => none
end TN
namespace TN
open PySem PySem.Spec PyProof.Rows L2

/-! ### what all laws begin by: a script's cell, a pen, its draws -/
def ccCell : CS := (cSeq (cIf (cTst (cBin opLt (cVar 1) (cFn fLen (cCons (cVar 0) cNil))))
  (cRet (cBin opIx (cVar 0) (cVar 1)))
  cSkip)
  (cRet (cLit (.int 0))))
def MMCell : FM := mkF 2 2 ccCell
def ccNext : CS := (cSeq (cSet 0 (cBin opMod (cBin opAdd (cVar 0) (cLit (.int 7919))) (cLit (.int 2147483647))))
  (cRet (cBin opMod (cBin opAdd (cBin opAdd (cBin opMul (cVar 0) (cVar 0)) (cBin opMul (cLit (.int 48271)) (cVar 0))) (cLit (.int 12345))) (cLit (.int 2147483629)))))
def MMNext : FM := mkF 1 1 ccNext
def ccPen : CS := (cSeq (cSet 1 (cFn fMax2 (cCons (cVar 0) (cCons (cBin opSub (cLit (.int 0)) (cVar 0)) cNil))))
  (cRet (cLst (cCons (cVar 1) (cCons (cFn fInt (cCons (cBin opGe (cVar 1) (cBin opPow (cLit (.int 10)) (cLit (.int 18)))) cNil)) (cCons (cBin opMod (cVar 1) (cLit (.int 1000003))) cNil))))))
def MMPen : FM := mkF 1 2 ccPen
def ccDraw : CS := (cSeq (cIf (cTst (cBin opEq (cBin opIx (cVar 0) (cLit (.int 1))) (cLit (.int 1))))
  (cSeq (cSet 2 (cBin opMod (cBin opIx (cVar 0) (cLit (.int 0))) (cVar 1)))
  (cSeq (cUnp (gPut 0 putA (cLit (.int 0))) (cBin opDiv (cBin opIx (cVar 0) (cLit (.int 0))) (cVar 1)))
  (cRet (cVar 2))))
  cSkip)
  (cSeq (cUnp (gPut 0 putA (cLit (.int 2))) (cCall MMNext (cCons (cBin opAdd (cCall MMNext (cCons (cBin opIx (cVar 0) (cLit (.int 2))) cNil)) (cLit (.int 7))) cNil)))
  (cRet (cBin opMod (cBin opDiv (cBin opIx (cVar 0) (cLit (.int 2))) (cLit (.int 64))) (cVar 1)))))
def MMDraw : FM := mkF 2 3 ccDraw
/-! equations -/
theorem opAdd_i (i j : Int) : opAdd (.int i) (.int j) = some (.val (.int (i + j))) := rfl
theorem opAdd_t (a b : List D) : opAdd (.tuple a) (.tuple b) = if a.length + b.length ≤ 16777216 then some (.val (.tuple (a ++ b))) else none := rfl
theorem opAdd_l (a b : List D) : opAdd (.list a) (.list b) = if a.length + b.length ≤ 16777216 then some (.tmp (.list (a ++ b))) else none := rfl
theorem opAdd_s (a b : Str) : opAdd (.str a) (.str b) = if a.length + b.length ≤ 16777216 then some (.val (.str (a ++ b))) else none := rfl
theorem opSub_i (i j : Int) : opSub (.int i) (.int j) = some (.val (.int (i - j))) := rfl
theorem opMul_i (i j : Int) : opMul (.int i) (.int j) = if mulB i j = true then some (.val (.int (i * j))) else none := rfl
theorem opMod_i (i j : Int) : opMod (.int i) (.int j) = if 0 < j then some (.val (.int (i % j))) else none := rfl
theorem opDiv_i (i j : Int) : opDiv (.int i) (.int j) = if 0 < j ∧ j < 10000000000000000000000000000000000000000000000000000000000000000000000 then some (.val (.int (i / j))) else none := rfl
theorem opPow_i (i j : Int) : opPow (.int i) (.int j) = if 0 ≤ j ∧ j ≤ 1000 ∧ i.natAbs < 18446744073709551616 then some (.val (.int (i ^ j.toNat))) else none := rfl
theorem opNeg_i (i : Int) : opNeg (.int i) = some (.val (.int (-i))) := rfl
theorem opEq_int (i j : Int) : opEq (.int i) (.int j) = some (.val (.bool (decide (i = j)))) := by
  have : PyData.eqv (.int i) (.int j) = decide (i = j) := by simp only [PyData.eqv]; by_cases h : i = j <;> simp [h]
  unfold opEq
  rw [if_pos ⟨rfl, rfl⟩, this]
theorem opNe_int (i j : Int) : opNe (.int i) (.int j) = some (.val (.bool (!decide (i = j)))) := by
  have : PyData.eqv (.int i) (.int j) = decide (i = j) := by simp only [PyData.eqv]; by_cases h : i = j <;> simp [h]
  unfold opNe
  rw [if_pos ⟨rfl, rfl⟩, this]
theorem opLt_i (f : Int → Int → Bool) (i j : Int) : opLtG f (.int i) (.int j) = some (.val (.bool (f i j))) := rfl
theorem opIx_l (a : List D) (i : Int) : opIx (.list a) (.int i) = (atI a i).map .val := rfl
theorem opIx_t (a : List D) (i : Int) : opIx (.tuple a) (.int i) = (atI a i).map .val := rfl
theorem opIsN_i (x : D) : opIsN x .none = some (.val (.bool (isNonD x))) := rfl
theorem opNotN_i (x : D) : opNotN x .none = some (.val (.bool (!isNonD x))) := rfl
theorem fLen_l (a : List D) : fLen [.list a] = some (.val (.int a.length)) := rfl
theorem fLen_t (a : List D) : fLen [.tuple a] = some (.val (.int a.length)) := rfl
theorem fInt_i (i : Int) : fInt [.int i] = some (.val (.int i)) := rfl
theorem fInt_b (b : Bool) : fInt [.bool b] = some (.val (.int (if b = true then 1 else 0))) := rfl
theorem fMax2_i (i j : Int) : fMax2 [.int i, .int j] = some (.val (.int (if j > i then j else i))) := rfl
theorem fMin2_i (i j : Int) : fMin2 [.int i, .int j] = some (.val (.int (if j < i then j else i))) := rfl
theorem fTuple_l (a : List D) : fTuple [.list a] = some (.val (.tuple a)) := rfl
theorem fTuple_t (a : List D) : fTuple [.tuple a] = some (.val (.tuple a)) := rfl
theorem fList_l (a : List D) : fListA [.list a] = some (.tmp (.list a)) := rfl
theorem fList_t (a : List D) : fListA [.tuple a] = some (.tmp (.list a)) := rfl
theorem fAppend_i (a : List D) (x : D) : fAppend (.list a) [x] = if a.length < 16777216 then some (.list (a ++ [x]), .none) else none := rfl
theorem fExtend_l (a b : List D) : fExtend (.list a) [.list b] = if a.length + b.length ≤ 16777216 then some (.list (a ++ b), .none) else none := rfl
theorem fExtend_t (a b : List D) : fExtend (.list a) [.tuple b] = if a.length + b.length ≤ 16777216 then some (.list (a ++ b), .none) else none := rfl
theorem putA_i (a : List D) (i : Int) (d : D) : putA (.list a) (.int i) d = match ixN a.length i with
    | some j => some (.list (a.set j d))
    | none => none := rfl
theorem opSl_l (a : List D) (lo hi : Option Int) : opSl (.list a) lo hi = some (.tmp (.list (cutL a lo hi))) := rfl
theorem opSl_t (a : List D) (lo hi : Option Int) : opSl (.tuple a) lo hi = some (.val (.tuple (cutL a lo hi))) := rfl
theorem atI_nat {α : Type} (a : List α) (k : Nat) (x : α) (h : a[k]? = some x) : atI a (k : Int) = some x := by
  have hk : k < a.length := (List.getElem?_eq_some_iff.mp h).1
  unfold atI ixN
  simp [hk]
  exact (List.getElem?_eq_some_iff.mp h).2
def Pen.next (p : Pen) (m : Int) : Pen := if p.f = 1 then ⟨p.a / m, p.f, p.s⟩ else ⟨p.a, p.f, nextI (nextI p.s + 7)⟩
def penOf (c : Int) : Pen := ⟨if c < 0 then -c else c, if 1000000000000000000 ≤ (if c < 0 then -c else c) then 1 else 0, (if c < 0 then -c else c) % 1000003⟩
def cellAt (ns : List Int) (k : Nat) : Int := ns.getD k 0
theorem Pen.draw_ge (p : Pen) {m : Int} (h : 0 < m) : 0 ≤ p.draw m := by
  unfold Pen.draw; split <;> exact Int.emod_nonneg _ (by omega)
theorem Pen.draw_lt (p : Pen) {m : Int} (h : 0 < m) : p.draw m < m := by
  unfold Pen.draw; split <;> exact Int.emod_lt_of_pos _ h
theorem next_run (s : Int) : ∃ outs, MMNext [(.int s, .fz)] = .ok (.int (nextI s)) false outs := by
  have h1 : 0 ≤ (s + 7919) % 2147483647 := Int.emod_nonneg _ (by decide)
  have h2 : (s + 7919) % 2147483647 < 2147483647 := Int.emod_lt_of_pos _ (by decide)
  have hm : mulB ((s + 7919) % 2147483647) ((s + 7919) % 2147483647) = true := by
    unfold mulB; simp; omega
  have hm2 : mulB 48271 ((s + 7919) % 2147483647) = true := by
    unfold mulB; simp
  refine ⟨[some (.int ((s + 7919) % 2147483647), .fz)], ?_⟩
  simp [MMNext, ccNext, mkF, RS.rv, FR.rv, cSeq, cIf, cTst, cSet, cRet, cRetN, retP, cBin, cUn, cFn, cCons, cNil, cVar, cLit, cUnp, gPut, gNm, gTp, gsCons, gsNil, cFz, cDrop, cSkip, cAnd, cOr, cNot, cAndV, cOrV, cNotV, cIte, cTup, cLst, cCall, cPar, cAugI, cMutL, cMut, TN.R.bind, TN.R.toS, TN.R.toSB, look, lookA, TN.R.ofOpt, store, canSet, frzA, frz, plR, ownAt, opAdd_i, opAdd_t, opAdd_l, opAdd_s, opSub_i, opMul_i, opMod_i, opDiv_i, opPow_i, opNeg_i, opEq_int, opNe_int, opLt_i, opIx_l, opIx_t, opIsN_i, opNotN_i, fLen_l, fLen_t, fInt_i, fInt_b, fMax2_i, fMin2_i, fTuple_l, fTuple_t, fList_l, fList_t, fAppend_i, fExtend_l, fExtend_t, putA_i, cPart, cNoPart, cSl, opSl_l, opSl_t, hm, hm2, nextI]
theorem cell_run (ns : List Int) (k : Nat) : ∃ outs, MMCell [(.list (ns.map .int), .fz), (.int k, .fz)] = .ok (.int (cellAt ns k)) false outs := by
  refine ⟨[some (.list (ns.map .int), .fz), some (.int k, .fz)], ?_⟩
  by_cases h : k < ns.length
  · have e : atI (ns.map PyData.int) (k : Int) = some (.int (cellAt ns k)) := atI_nat _ _ _ (by simp [cellAt, h])
    simp [MMCell, ccCell, mkF, RS.rv, FR.rv, cSeq, cIf, cTst, cSet, cRet, cRetN, retP, cBin, cUn, cFn, cCons, cNil, cVar, cLit, cUnp, gPut, gNm, gTp, gsCons, gsNil, cFz, cDrop, cSkip, cAnd, cOr, cNot, cAndV, cOrV, cNotV, cIte, cTup, cLst, cCall, cPar, cAugI, cMutL, cMut, TN.R.bind, TN.R.toS, TN.R.toSB, look, lookA, TN.R.ofOpt, store, canSet, frzA, frz, plR, ownAt, opAdd_i, opAdd_t, opAdd_l, opAdd_s, opSub_i, opMul_i, opMod_i, opDiv_i, opPow_i, opNeg_i, opEq_int, opNe_int, opLt_i, opIx_l, opIx_t, opIsN_i, opNotN_i, fLen_l, fLen_t, fInt_i, fInt_b, fMax2_i, fMin2_i, fTuple_l, fTuple_t, fList_l, fList_t, fAppend_i, fExtend_l, fExtend_t, putA_i, cPart, cNoPart, cSl, opSl_l, opSl_t, h, e]
  · have e : cellAt ns k = 0 := by unfold cellAt; simp [Nat.le_of_not_lt h]
    simp [MMCell, ccCell, mkF, RS.rv, FR.rv, cSeq, cIf, cTst, cSet, cRet, cRetN, retP, cBin, cUn, cFn, cCons, cNil, cVar, cLit, cUnp, gPut, gNm, gTp, gsCons, gsNil, cFz, cDrop, cSkip, cAnd, cOr, cNot, cAndV, cOrV, cNotV, cIte, cTup, cLst, cCall, cPar, cAugI, cMutL, cMut, TN.R.bind, TN.R.toS, TN.R.toSB, look, lookA, TN.R.ofOpt, store, canSet, frzA, frz, plR, ownAt, opAdd_i, opAdd_t, opAdd_l, opAdd_s, opSub_i, opMul_i, opMod_i, opDiv_i, opPow_i, opNeg_i, opEq_int, opNe_int, opLt_i, opIx_l, opIx_t, opIsN_i, opNotN_i, fLen_l, fLen_t, fInt_i, fInt_b, fMax2_i, fMin2_i, fTuple_l, fTuple_t, fList_l, fList_t, fAppend_i, fExtend_l, fExtend_t, putA_i, cPart, cNoPart, cSl, opSl_l, opSl_t, h, e]
theorem pen_run (c : Int) : ∃ outs, MMPen [(.int c, .fz)] = .ok (penOf c).d true outs := by
  have e : (if c < -c then -c else c) = if c < 0 then -c else c := by
    by_cases h : c < 0
    · rw [if_pos (by omega), if_pos h]
    · rw [if_neg (by omega), if_neg h]
  refine ⟨[some (.int c, .fz)], ?_⟩
  simp [MMPen, ccPen, mkF, RS.rv, FR.rv, cSeq, cIf, cTst, cSet, cRet, cRetN, retP, cBin, cUn, cFn, cCons, cNil, cVar, cLit, cUnp, gPut, gNm, gTp, gsCons, gsNil, cFz, cDrop, cSkip, cAnd, cOr, cNot, cAndV, cOrV, cNotV, cIte, cTup, cLst, cCall, cPar, cAugI, cMutL, cMut, TN.R.bind, TN.R.toS, TN.R.toSB, look, lookA, TN.R.ofOpt, store, canSet, frzA, frz, plR, ownAt, opAdd_i, opAdd_t, opAdd_l, opAdd_s, opSub_i, opMul_i, opMod_i, opDiv_i, opPow_i, opNeg_i, opEq_int, opNe_int, opLt_i, opIx_l, opIx_t, opIsN_i, opNotN_i, fLen_l, fLen_t, fInt_i, fInt_b, fMax2_i, fMin2_i, fTuple_l, fTuple_t, fList_l, fList_t, fAppend_i, fExtend_l, fExtend_t, putA_i, cPart, cNoPart, cSl, opSl_l, opSl_t, penOf, Pen.d]
  rw [e]
  simp
theorem draw_run (p : Pen) (m : Int) (h0 : 0 < m) (h1 : m < 10000000000000000000000000000000000000000000000000000000000000000000000) :
    MMDraw [(p.d, .lent), (.int m, .fz)] = .ok (.int (p.draw m)) false [some ((p.next m).d, .lent), some (.int m, .fz)] := by
  obtain ⟨o1, n1⟩ := next_run p.s
  obtain ⟨o2, n2⟩ := next_run (nextI p.s + 7)
  have c1 : ∀ ρ : Rho, callM MMNext [.val (.int p.s)] ρ = .ok (.val (.int (nextI p.s))) ρ := fun ρ => callM_no rfl rfl ⟨_, n1⟩
  have c2 : ∀ ρ : Rho, callM MMNext [.val (.int (nextI p.s + 7))] ρ = .ok (.val (.int (nextI (nextI p.s + 7)))) ρ := fun ρ => callM_no rfl rfl ⟨_, n2⟩
  by_cases hf : p.f = 1
  · simp [MMDraw, ccDraw, mkF, RS.rv, FR.rv, cSeq, cIf, cTst, cSet, cRet, cRetN, retP, cBin, cUn, cFn, cCons, cNil, cVar, cLit, cUnp, gPut, gNm, gTp, gsCons, gsNil, cFz, cDrop, cSkip, cAnd, cOr, cNot, cAndV, cOrV, cNotV, cIte, cTup, cLst, cCall, cPar, cAugI, cMutL, cMut, TN.R.bind, TN.R.toS, TN.R.toSB, look, lookA, TN.R.ofOpt, store, canSet, frzA, frz, plR, ownAt, opAdd_i, opAdd_t, opAdd_l, opAdd_s, opSub_i, opMul_i, opMod_i, opDiv_i, opPow_i, opNeg_i, opEq_int, opNe_int, opLt_i, opIx_l, opIx_t, opIsN_i, opNotN_i, fLen_l, fLen_t, fInt_i, fInt_b, fMax2_i, fMin2_i, fTuple_l, fTuple_t, fList_l, fList_t, fAppend_i, fExtend_l, fExtend_t, putA_i, cPart, cNoPart, cSl, opSl_l, opSl_t, Pen.d, hf, atI, ixN, h0, h1, Pen.draw, Pen.next]
  · simp [MMDraw, ccDraw, mkF, RS.rv, FR.rv, cSeq, cIf, cTst, cSet, cRet, cRetN, retP, cBin, cUn, cFn, cCons, cNil, cVar, cLit, cUnp, gPut, gNm, gTp, gsCons, gsNil, cFz, cDrop, cSkip, cAnd, cOr, cNot, cAndV, cOrV, cNotV, cIte, cTup, cLst, cCall, cPar, cAugI, cMutL, cMut, TN.R.bind, TN.R.toS, TN.R.toSB, look, lookA, TN.R.ofOpt, store, canSet, frzA, frz, plR, ownAt, opAdd_i, opAdd_t, opAdd_l, opAdd_s, opSub_i, opMul_i, opMod_i, opDiv_i, opPow_i, opNeg_i, opEq_int, opNe_int, opLt_i, opIx_l, opIx_t, opIsN_i, opNotN_i, fLen_l, fLen_t, fInt_i, fInt_b, fMax2_i, fMin2_i, fTuple_l, fTuple_t, fList_l, fList_t, fAppend_i, fExtend_l, fExtend_t, putA_i, cPart, cNoPart, cSl, opSl_l, opSl_t, Pen.d, hf, atI, ixN, h0, h1, Pen.draw, Pen.next, c1, c2]
/-- a draw by a name's pen -/
theorem draw_call {ρ : Rho} {i : Nat} {p : Pen} {m : Int} {md : Md} (hi : ρ[i]? = some (some (p.d, md))) (hm : md = .own ∨ md = .lent) (h0 : 0 < m) (h1 : m < 10000000000000000000000000000000000000000000000000000000000000000000000) :
    callM MMDraw [.slot i, .val (.int m)] ρ = .ok (.val (.int (p.draw m))) (ρ.set i (some ((p.next m).d, md))) := by
  refine callM_lent (as := [(p.d, .lent), (.int m, .fz)]) hi hm ?_ rfl ?_ (draw_run p m h0 h1) ?_
  · simp [noSlot, isSlot]
  · rcases hm with rfl | rfl <;> simp [argsOf, argOf, hi]
  · simp [outAt, isSlot]
theorem cell_call {ρ : Rho} (ns : List Int) (k : Nat) : callM MMCell [.val (.list (ns.map .int)), .val (.int k)] ρ = .ok (.val (.int (cellAt ns k))) ρ := callM_no rfl rfl (cell_run ns k)
theorem pen_call {ρ : Rho} (c : Int) : callM MMPen [.val (.int c)] ρ = .ok (.tmp (penOf c).d) ρ := callM_no rfl rfl (pen_run c)
end TN
namespace TN
open PySem PySem.Spec PyProof.Rows L2

/-! ### comprehensions, loops: one turn -/
def elem (g : D → Rho → Option Rho) (e : CE) (vs : List Nat) (ρ : Rho) (x : D) : Option (D × Rho) := match g x ρ with
  | some ρ1 => match e ρ1 with
    | .ok p ρ3 => match frz p ρ3 with
      | some (d, ρ4) => if wipeOk ρ4 vs = true then some (d, wipeR ρ4 vs) else none
      | none => none
    | _ => none
  | none => none
theorem compL_cons {g : D → Rho → Option Rho} {e : CE} {vs : List Nat} {ρ ρ' : Rho} {x d : D} {ds acc : List D} (h : elem g e vs ρ x = some (d, ρ')) (hl : acc.length < 16777216) :
    compL g tTrue e vs (x :: ds) acc ρ = compL g tTrue e vs ds (acc ++ [d]) ρ' := by
  unfold elem at h
  cases q : g x ρ with
  | none => simp only [q] at h; cases h
  | some ρ1 =>
    simp only [q] at h
    cases q2 : e ρ1 with
    | bad => simp only [q2] at h; cases h
    | exc y ρ3 => simp only [q2] at h; cases h
    | ok p ρ3 =>
      simp only [q2] at h
      cases q3 : frz p ρ3 with
      | none => simp only [q3] at h; cases h
      | some w =>
        obtain ⟨d', ρ4⟩ := w
        simp only [q3] at h
        by_cases hw : wipeOk ρ4 vs = true
        · rw [if_pos hw] at h
          simp only [Option.some.injEq, Prod.mk.injEq] at h
          obtain ⟨rfl, rfl⟩ := h
          simp only [compL, q, tTrue, q2, q3, hl, hw, and_self, if_true]
        · rw [if_neg hw] at h; cases h
theorem compL_st {α σ : Type} {g : D → Rho → Option Rho} {e : CE} {vs : List Nat} {f : α → D} {I : σ → Rho → Prop} {step : σ → α → σ} {out : σ → α → D} : ∀ (xs : List α)
    (h : ∀ s x ρ, x ∈ xs → I s ρ → ∃ ρ', elem g e vs ρ (f x) = some (out s x, ρ') ∧ I (step s x) ρ') (s : σ) (ρ : Rho) (acc : List D), acc.length + xs.length ≤ 16777216 → I s ρ →
    ∃ ρ', compL g tTrue e vs (xs.map f) acc ρ = .ok (acc ++ accF step out xs s) ρ' ∧ I (xs.foldl step s) ρ'
  | [], _, s, ρ, acc, _, i => ⟨ρ, by simp [compL, accF], i⟩
  | x :: xs, h, s, ρ, acc, hl, i => by
    obtain ⟨ρ', h1, h2⟩ := h s x ρ (List.mem_cons_self ..) i
    simp only [List.length_cons] at hl
    obtain ⟨ρ2, h6, h7⟩ := compL_st xs (fun s y ρ hy => h s y ρ (List.mem_cons_of_mem _ hy)) (step s x) ρ' (acc ++ [out s x]) (by simp; omega) h2
    refine ⟨ρ2, ?_, h7⟩
    rw [List.map_cons, compL_cons h1 (by omega), h6]
    simp [accF]
theorem compL_D {g : D → Rho → Option Rho} {e : CE} {vs : List Nat} {ρ : Rho} {out : D → D} : ∀ (ds acc : List D), acc.length + ds.length ≤ 16777216 → (∀ x, x ∈ ds → elem g e vs ρ x = some (out x, ρ)) →
    compL g tTrue e vs ds acc ρ = .ok (acc ++ ds.map out) ρ
  | [], acc, _, _ => by simp [compL]
  | x :: ds, acc, hl, h => by
    simp only [List.length_cons] at hl
    rw [compL_cons (h x (List.mem_cons_self ..)) (by omega), compL_D ds _ (by simp; omega) fun y hy => h y (List.mem_cons_of_mem _ hy)]
    simp
theorem back_wipe {ρ : Rho} : ∀ {vs : List Nat}, backR ρ (wipeR ρ vs) vs = ρ := by
  intro vs
  apply List.ext_getElem?
  intro i
  by_cases hi : i ∈ vs
  · rw [backR_in (wipeR_length ρ vs).symm hi]
  · rw [backR_out hi, wipeR_out hi]
/-- a comprehension that changes nothing -/
theorem comp_D {ci : CI} {g : D → Rho → Option Rho} {e : CE} {vs : List Nat} {ρ ρ1 : Rho} {ds : List D} {out : D → D} (h1 : ci ρ = .ok ds ρ1) (h2 : wipeOk ρ1 vs = true) (hl : ds.length ≤ 16777216)
    (h : ∀ x, x ∈ ds → elem g e vs (wipeR ρ1 vs) x = some (out x, wipeR ρ1 vs)) : cComp ci g tTrue e vs ρ = .ok (.tmp (.list (ds.map out))) ρ1 := by
  unfold cComp
  simp only [h1, h2, if_true, compL_D ds [] (by simpa using hl) h, List.nil_append, back_wipe]
theorem comp_map {α : Type} {ci : CI} {g : D → Rho → Option Rho} {e : CE} {vs : List Nat} {ρ ρ1 : Rho} {xs : List α} {f out : α → D} (h1 : ci ρ = .ok (xs.map f) ρ1) (h2 : wipeOk ρ1 vs = true) (hl : xs.length ≤ 16777216)
    (h : ∀ x, x ∈ xs → elem g e vs (wipeR ρ1 vs) (f x) = some (out x, wipeR ρ1 vs)) : cComp ci g tTrue e vs ρ = .ok (.tmp (.list (xs.map out))) ρ1 := by
  obtain ⟨ρ', h3, h4⟩ := compL_st (σ := Unit) (I := fun _ ρ' => ρ' = wipeR ρ1 vs) (step := fun _ _ => ()) (out := fun _ x => out x) xs (fun _ x ρ' hx e => by
    subst e
    exact ⟨_, h x hx, rfl⟩) () (wipeR ρ1 vs) [] (by simpa using hl) rfl
  subst h4
  have : ∀ xs : List α, accF (fun (_ : Unit) (_ : α) => ()) (fun _ x => out x) xs () = xs.map out := by
    intro xs
    induction xs with
    | nil => rfl
    | cons x xs ih => simp [accF, ih]
  unfold cComp
  simp only [h1, h2, if_true, h3, this, List.nil_append, back_wipe]
theorem forL_cons {g : D → Rho → Option Rho} {b : CS} {ρ : Rho} {x : D} {ds : List D} : forL g b (x :: ds) ρ = match body g b x ρ with
    | .nx ρ2 => forL g b ds ρ2
    | .ret d fr ρ2 => .ret d fr ρ2
    | .exc x ρ2 => .exc x ρ2
    | .bad => .bad := by
  unfold body
  rw [forL]
  cases g x ρ with
  | none => rfl
  | some ρ1 => rfl
/-! ### what is returned -/
theorem FR.rv_ok {r : FR} {d : D} {fr : Bool} (h : r.rv = some (d, fr)) : ∃ outs, r = .ok d fr outs := by
  cases r with
  | ok a b o => simp only [FR.rv, Option.some.injEq, Prod.mk.injEq] at h; obtain ⟨rfl, rfl⟩ := h; exact ⟨o, rfl⟩
  | exc x o => cases h
  | bad => cases h
theorem RS.rv_ret {r : RS} {d : D} {fr : Bool} (h : r.rv = some (d, fr)) : ∃ ρ, r = .ret d fr ρ := by
  cases r with
  | ret a b o => simp only [RS.rv, Option.some.injEq, Prod.mk.injEq] at h; obtain ⟨rfl, rfl⟩ := h; exact ⟨o, rfl⟩
  | nx o => cases h
  | exc x o => cases h
  | bad => cases h
theorem callM_rv {M : FM} {ps : List Pl} {ρ : Rho} {as : List (D × Md)} {d : D} {fr : Bool} (h : ps.all noSlot = true) (ha : argsOf ps ρ = some as) (hM : (M as).rv = some (d, fr)) : callM M ps ρ = .ok (plR d fr) ρ := callM_no h ha (FR.rv_ok hM)
theorem nx_seq {a b : CS} {ρ ρ1 : Rho} (h : a ρ = .nx ρ1) : cSeq a b ρ = b ρ1 := by simp only [cSeq, h]
theorem rv_mkF {n m : Nat} {c : CS} {as : List (D × Md)} {d : D} {fr : Bool} (hl : as.length = n) (h : (c (as.map some ++ List.replicate (m - n) none)).rv = some (d, fr)) : (mkF n m c as).rv = some (d, fr) := by
  obtain ⟨ρ', e⟩ := RS.rv_ret h
  unfold mkF
  simp only [hl, if_true, e]; rfl
/-! ### draws by a pen in a certain slot -/
section
variable {p : Pen} {m : Int} {s0 s1 s2 s3 s4 s5 s6 s7 : Slot} {ρ : Rho}
end

/-- a slot with what doesn't matter -/
def jk (j : Option D) : Slot := match j with
  | some d => some (d, .fz)
  | none => none
/-! ### is_whole -/
def isIntD : D → Bool
  | .int _ => true
  | _ => false
def ccWhole : CS := (cRet (cAndV (cUn (opIsi "int") (cVar 0)) (cNotV (cUn (opIsi "bool") (cVar 0)))))
def MMWhole : FM := mkF 1 1 ccWhole
theorem whole_run (d : D) : (MMWhole [(d, .fz)]).rv = some (.bool (isIntD d), false) := by
  cases d <;> rfl
theorem whole_call {ρ : Rho} (d : D) : callM MMWhole [.val d] ρ = .ok (.val (.bool (isIntD d))) ρ := callM_rv rfl rfl (whole_run d)
def isTupD : D → Bool
  | .tuple _ => true
  | _ => false
def isLstD : D → Bool
  | .list _ => true
  | _ => false
def isBoolD : D → Bool
  | .bool _ => true
  | _ => false
theorem isi_tuple (d : D) : opIsi "tuple" d = some (.val (.bool (isTupD d))) := by cases d <;> rfl
theorem isi_list (d : D) : opIsi "list" d = some (.val (.bool (isLstD d))) := by cases d <;> rfl
theorem isi_bool (d : D) : opIsi "bool" d = some (.val (.bool (isBoolD d))) := by cases d <;> rfl
/-! ### equal data -/
theorem eqvAll_ints : ∀ (a b : List Int), PyData.eqvAll (a.map .int) (b.map .int) = decide (a = b)
  | [], [] => by simp [PyData.eqvAll]
  | [], _ :: _ => by simp [PyData.eqvAll]
  | _ :: _, [] => by simp [PyData.eqvAll]
  | x :: xs, y :: ys => by
    simp only [List.map_cons, PyData.eqvAll, PyData.eqv, eqvAll_ints xs ys]
    by_cases h1 : x = y
    · by_cases h2 : xs = ys
      · simp [h1, h2]
      · simp [h1, h2]
    · simp [h1]
theorem depthAll_ints : ∀ (a : List Int), PyData.depthAll (a.map .int) ≤ 1
  | [] => by simp [PyData.depthAll]
  | x :: xs => by
    have := depthAll_ints xs
    simp only [List.map_cons, PyData.depthAll, PyData.depth]
    omega
theorem canLay_ints : ∀ (a : List Int), PyData.canLayAll0 (a.map .int) = true
  | [] => by simp [PyData.canLayAll0]
  | x :: xs => by simp [PyData.canLayAll0, PyData.canLay0, canLay_ints xs]
theorem shaped_ints (a : List Int) : SeqAt.shaped (.list (a.map .int)) = true := by
  have := depthAll_ints a
  unfold SeqAt.shaped
  simp only [PyData.canLay0, canLay_ints, PyData.depth, Bool.true_and]
  exact decide_eq_true (by omega)
theorem shaped_tints (a : List Int) : SeqAt.shaped (.tuple (a.map .int)) = true := by
  have := depthAll_ints a
  unfold SeqAt.shaped
  simp only [PyData.canLay0, canLay_ints, PyData.depth, Bool.true_and]
  exact decide_eq_true (by omega)
theorem opEq_ints (a b : List Int) : opEq (.list (a.map .int)) (.list (b.map .int)) = some (.val (.bool (decide (a = b)))) := by
  unfold opEq
  rw [if_pos ⟨shaped_ints a, shaped_ints b⟩, PyData.eqv, eqvAll_ints]
theorem opNe_ints (a b : List Int) : opNe (.list (a.map .int)) (.list (b.map .int)) = some (.val (.bool (!decide (a = b)))) := by
  unfold opNe
  rw [if_pos ⟨shaped_ints a, shaped_ints b⟩, PyData.eqv, eqvAll_ints]
theorem opEq_tints (a b : List Int) : opEq (.tuple (a.map .int)) (.tuple (b.map .int)) = some (.val (.bool (decide (a = b)))) := by
  unfold opEq
  rw [if_pos ⟨shaped_tints a, shaped_tints b⟩, PyData.eqv, eqvAll_ints]
theorem opNe_tints (a b : List Int) : opNe (.tuple (a.map .int)) (.tuple (b.map .int)) = some (.val (.bool (!decide (a = b)))) := by
  unfold opNe
  rw [if_pos ⟨shaped_tints a, shaped_tints b⟩, PyData.eqv, eqvAll_ints]
theorem opEq_bool (a b : Bool) : opEq (.bool a) (.bool b) = some (.val (.bool (a == b))) := by
  unfold opEq
  rw [if_pos ⟨rfl, rfl⟩, PyData.eqv]
theorem fAll_bools (bs : List Bool) : fAll [.list (bs.map .bool)] = some (.val (.bool (bs.all id))) := by
  simp only [fAll, blsOf_map]
theorem fAll_map {α : Type} (xs : List α) (f : α → Bool) : fAll [.list (xs.map fun x => .bool (f x))] = some (.val (.bool (xs.all f))) := by
  have := fAll_bools (xs.map f)
  rw [List.map_map] at this
  rw [show (fun x => PyData.bool (f x)) = PyData.bool ∘ f from rfl, this]
  simp [List.all_map]
theorem fSum_l (ns : List Int) : fSum [.list (ns.map .int)] = some (.val (.int ns.sum)) := by simp only [fSum, seqInts, seqOf, intsOf_map]
theorem fSum_t (ns : List Int) : fSum [.tuple (ns.map .int)] = some (.val (.int ns.sum)) := by simp only [fSum, seqInts, seqOf, intsOf_map]
theorem fSorted_l (ns : List Int) (h : ns.length ≤ 16777216) : fSorted [.list (ns.map .int)] = some (.tmp (.list ((sortI ns).map .int))) := by
  simp only [fSorted, sortDs, intsOf_map, h, if_true, Option.map_some]
theorem fLenSet_l (ns : List Int) (h : ns.length ≤ 4000) : fLenSet (.list (ns.map .int)) = some (.val (.int ((ddI ns).length : Nat))) := by
  simp only [fLenSet, seqInts, seqOf, intsOf_map, h, if_true]
theorem fLenSet_t (ns : List Int) (h : ns.length ≤ 4000) : fLenSet (.tuple (ns.map .int)) = some (.val (.int ((ddI ns).length : Nat))) := by
  simp only [fLenSet, seqInts, seqOf, intsOf_map, h, if_true]
/-! ### cuts -/
theorem cut_to {α : Type} (a : List α) (k : Nat) : cutL a none (some (k : Int)) = a.take k := by
  unfold cutL
  rw [HT.sIx_none, HT.sIx_nat]
  simp
theorem cut_mid {α : Type} (a : List α) (j k : Nat) : cutL a (some (j : Int)) (some (k : Int)) = (a.take k).drop j := by
  unfold cutL
  rw [HT.sIx_nat, HT.sIx_nat, List.drop_take]
  by_cases h : j ≤ a.length
  · rw [Nat.min_eq_left h]
    by_cases h2 : k ≤ a.length
    · rw [Nat.min_eq_left h2]
    · rw [Nat.min_eq_right (by omega), List.take_of_length_le (by simp), List.take_of_length_le (by simp; omega)]
  · rw [Nat.min_eq_right (Nat.le_of_not_le h), List.drop_eq_nil_of_le (Nat.le_refl _), List.drop_eq_nil_of_le (Nat.le_of_not_le h)]
    simp
theorem rgD_nat (n : Nat) : rgD 0 (n : Int) = (List.range n).map fun i => PyData.int (i : Nat) := by
  unfold rgD
  simp
end TN
namespace TN
open PySem PySem.Spec PyProof.Rows L2
/-! ### loops by what was walked -/
theorem forL_preX {α : Type} {g : D → Rho → Option Rho} {b : CS} {f : α → D} {I : List α → Rho → Prop} {ok : α → Bool} {r : D} {fr : Bool} {xs : List α} : ∀ (ys pre : List α)
    (h : ∀ pre x post ρ, xs = pre ++ x :: post → pre.all ok = true → I pre ρ → (ok x = true → ∃ ρ2, body g b (f x) ρ = .nx ρ2 ∧ I (pre ++ [x]) ρ2) ∧ (ok x = false → (body g b (f x) ρ).rv = some (r, fr))) (ρ : Rho), xs = pre ++ ys → pre.all ok = true → I pre ρ →
    (ys.all ok = true → ∃ ρ', forL g b (ys.map f) ρ = .nx ρ' ∧ I xs ρ') ∧ (ys.all ok = false → (forL g b (ys.map f) ρ).rv = some (r, fr))
  | [], pre, _, ρ, e, _, i => ⟨fun _ => ⟨ρ, rfl, by rw [e]; simpa using i⟩, fun h => by simp at h⟩
  | x :: ys, pre, h, ρ, e, ho, i => by
    obtain ⟨h1, h2⟩ := h pre x ys ρ e ho i
    have ih : ok x = true → ∀ ρ, I (pre ++ [x]) ρ → _ := fun hx ρ i => forL_preX ys (pre ++ [x]) h ρ (by rw [e]; simp) (by rw [List.all_append, ho]; simp [hx]) i
    refine ⟨fun e => ?_, fun e => ?_⟩
    · simp only [List.all_cons, Bool.and_eq_true] at e
      obtain ⟨ρ2, h3, h4⟩ := h1 e.1
      obtain ⟨ρ', h5, h6⟩ := (ih e.1 ρ2 h4).1 e.2
      exact ⟨ρ', by rw [List.map_cons, forL_cons, h3]; exact h5, h6⟩
    · cases q : ok x with
      | false =>
        obtain ⟨ρ2, h3⟩ := RS.rv_ret (h2 q)
        rw [List.map_cons, forL_cons, h3]; rfl
      | true =>
        rw [List.all_cons, q, Bool.true_and] at e
        obtain ⟨ρ2, h3, h4⟩ := h1 q
        rw [List.map_cons, forL_cons, h3]
        exact (ih q ρ2 h4).2 e
theorem forL_preAll {α : Type} {g : D → Rho → Option Rho} {b : CS} {f : α → D} {I : List α → Rho → Prop} {ok : α → Bool} {r : D} {fr : Bool} (xs : List α)
    (h : ∀ pre x post ρ, xs = pre ++ x :: post → pre.all ok = true → I pre ρ → (ok x = true → ∃ ρ2, body g b (f x) ρ = .nx ρ2 ∧ I (pre ++ [x]) ρ2) ∧ (ok x = false → (body g b (f x) ρ).rv = some (r, fr))) (ρ : Rho) (i : I [] ρ) :
    (xs.all ok = true → ∃ ρ', forL g b (xs.map f) ρ = .nx ρ' ∧ I xs ρ') ∧ (xs.all ok = false → (forL g b (xs.map f) ρ).rv = some (r, fr)) := forL_preX xs [] h ρ rfl rfl i
theorem forL_pre {α : Type} {g : D → Rho → Option Rho} {b : CS} {f : α → D} {I : List α → Rho → Prop} (xs : List α)
    (h : ∀ pre x post ρ, xs = pre ++ x :: post → I pre ρ → ∃ ρ2, body g b (f x) ρ = .nx ρ2 ∧ I (pre ++ [x]) ρ2) (ρ : Rho) (i : I [] ρ) : ∃ ρ', forL g b (xs.map f) ρ = .nx ρ' ∧ I xs ρ' :=
  (forL_preAll (ok := fun _ => true) (r := .none) (fr := false) xs (fun pre x post ρ e _ i => ⟨fun _ => h pre x post ρ e i, fun z => by cases z⟩) ρ i).1 (by simp)
theorem for_nx {ci : CI} {g : D → Rho → Option Rho} {b : CS} {ρ ρ1 ρ2 : Rho} {ds : List D} (h1 : ci ρ = .ok ds ρ1) (h2 : forL g b ds ρ1 = .nx ρ2) : cFor ci g b ρ = .nx ρ2 := by unfold cFor; rw [h1]; exact h2
/-- a sequence of statements, its value -/
theorem seq_rv {a b : CS} {ρ ρ1 : Rho} {v : Option (D × Bool)} (h : a ρ = .nx ρ1) (h2 : (b ρ1).rv = v) : (cSeq a b ρ).rv = v := by rw [nx_seq h]; exact h2
theorem atI_ints {r : List Int} {i : Nat} (h : i < r.length) : atI (r.map PyData.int) (i : Int) = some (.int (r.getD i 0)) := atI_nat _ _ _ (by simp [h])
/-! ### ranges -/
theorem rgFit_nat {n : Nat} (h : n ≤ 1000000) : rgFit (n : Int) = true := by
  unfold rgFit
  simp only [Bool.and_eq_true, decide_eq_true_eq]
  omega
theorem rng1 {a : CE} {ρ ρ1 : Rho} {n : Nat} (ha : a ρ = .ok (.val (.int (n : Nat))) ρ1) (h : n ≤ 1000000) : cRng1 a ρ = .ok ((List.range n).map fun (k : Nat) => .int k) ρ1 := by
  unfold cRng1
  simp only [ha, R.bind, look, rgFit_nat h, if_true, rgD_nat]
theorem rng2 {a b : CE} {ρ ρ1 ρ2 : Rho} {m n : Nat} (ha : a ρ = .ok (.val (.int (m : Nat))) ρ1) (hb : b ρ1 = .ok (.val (.int (n : Nat))) ρ2) (h1 : m ≤ 1000000) (h : n ≤ 1000000) : cRng2 a b ρ = .ok ((List.range (n - m)).map fun (k : Nat) => .int ((m + k : Nat) : Int)) ρ2 := by
  unfold cRng2
  simp only [ha, hb, R.bind, look, rgFit_nat h, rgFit_nat h1, and_self, if_true]
  have e : ((n : Int) - (m : Int)).toNat = n - m := by omega
  unfold rgD
  rw [e]
  simp
/-! ### steps by their parts -/
theorem bin_ok {f : D → D → Option Pl} {a b : CE} {ρ ρ1 ρ2 : Rho} {p q r : Pl} {x y : D} (ha : a ρ = .ok p ρ1) (hb : b ρ1 = .ok q ρ2) (hx : look p ρ2 = some x) (hy : look q ρ2 = some y) (hf : f x y = some r) : cBin f a b ρ = .ok r ρ2 := by
  unfold cBin
  simp only [ha, hb, R.bind, hx, hy, hf, R.ofOpt]
theorem fn1_ok {f : List D → Option Pl} {a : CE} {ρ ρ1 : Rho} {p r : Pl} {x : D} (ha : a ρ = .ok p ρ1) (hx : look p ρ1 = some x) (hf : f [x] = some r) : cFn f (cCons a cNil) ρ = .ok r ρ1 := by
  unfold cFn cCons cNil
  simp only [ha, R.bind, lookA, hx, hf, R.ofOpt]
theorem call1_ok {M : FM} {a : CE} {ρ ρ1 : Rho} {p : Pl} {r : R Pl} (ha : a ρ = .ok p ρ1) (h : callM M [p] ρ1 = r) : cCall M (cCons a cNil) ρ = r := by
  unfold cCall cCons cNil
  simp only [ha, R.bind, h]
theorem call2_ok {M : FM} {a b : CE} {ρ ρ1 ρ2 : Rho} {p q : Pl} {r : R Pl} (ha : a ρ = .ok p ρ1) (hb : b ρ1 = .ok q ρ2) (h : callM M [p, q] ρ2 = r) : cCall M (cCons a (cCons b cNil)) ρ = r := by
  unfold cCall cCons cNil
  simp only [ha, hb, R.bind, h]
theorem tst_ok {c : CE} {ρ ρ1 : Rho} {p : Pl} {b : Bool} (h : c ρ = .ok p ρ1) (hl : look p ρ1 = some (.bool b)) : cTst c ρ = .ok b ρ1 := by
  unfold cTst
  simp only [h, R.bind, hl]
theorem not_ok {t : CB} {ρ ρ1 : Rho} {b : Bool} (h : t ρ = .ok b ρ1) : cNot t ρ = .ok (!b) ρ1 := by
  unfold cNot
  simp only [h, R.bind]
theorem and_yes {a b : CB} {ρ ρ1 : Rho} {r : R Bool} (h : a ρ = .ok true ρ1) (h2 : b ρ1 = r) : cAnd a b ρ = r := by
  unfold cAnd
  simp only [h, R.bind, if_true, h2]
theorem and_no {a b : CB} {ρ ρ1 : Rho} (h : a ρ = .ok false ρ1) : cAnd a b ρ = .ok false ρ1 := by
  unfold cAnd
  simp only [h, R.bind, if_neg Bool.false_ne_true]
theorem or_no {a b : CB} {ρ ρ1 : Rho} {r : R Bool} (h : a ρ = .ok false ρ1) (h2 : b ρ1 = r) : cOr a b ρ = r := by
  unfold cOr
  simp only [h, R.bind, if_neg Bool.false_ne_true, h2]
theorem if_yes {t : CB} {a b : CS} {ρ ρ1 : Rho} {r : RS} (h : t ρ = .ok true ρ1) (h2 : a ρ1 = r) : cIf t a b ρ = r := by
  unfold cIf
  simp only [h, R.toSB, if_true, h2]
theorem if_no {t : CB} {a b : CS} {ρ ρ1 : Rho} {r : RS} (h : t ρ = .ok false ρ1) (h2 : b ρ1 = r) : cIf t a b ρ = r := by
  unfold cIf
  simp only [h, R.toSB, if_neg Bool.false_ne_true, h2]
theorem ret_rv {c : CE} {ρ ρ1 : Rho} {d : D} (h : c ρ = .ok (.val d) ρ1) : (cRet c ρ).rv = some (d, false) := by
  unfold cRet
  simp only [h, R.toS, retP]; rfl
theorem ret_rvT {c : CE} {ρ ρ1 : Rho} {d : D} (h : c ρ = .ok (.tmp d) ρ1) : (cRet c ρ).rv = some (d, true) := by
  unfold cRet
  simp only [h, R.toS, retP]; rfl
theorem set_val {i : Nat} {c : CE} {ρ ρ1 : Rho} {d : D} (h : c ρ = .ok (.val d) ρ1) (hs : canSet ρ1 i = true) : cSet i c ρ = .nx (ρ1.set i (some (d, .fz))) := by
  unfold cSet
  simp only [h, R.toS, store, hs, if_true]
theorem var_fz {i : Nat} {ρ : Rho} {d : D} (h : ρ[i]? = some (some (d, .fz))) : cVar i ρ = .ok (.val d) ρ := by unfold cVar; simp only [h]
theorem var_own {i : Nat} {ρ : Rho} {d : D} (h : ρ[i]? = some (some (d, .own))) : cVar i ρ = .ok (.slot i) ρ := by unfold cVar; simp only [h]
theorem var_lent {i : Nat} {ρ : Rho} {d : D} (h : ρ[i]? = some (some (d, .lent))) : cVar i ρ = .ok (.slot i) ρ := by unfold cVar; simp only [h]
theorem look_slot {i : Nat} {ρ : Rho} {d : D} {m : Md} (h : ρ[i]? = some (some (d, m))) : look (.slot i) ρ = some d := by unfold look; simp only [h]
theorem it_val {c : CE} {ρ ρ1 : Rho} {d : D} {ds : List D} (h : c ρ = .ok (.val d) ρ1) (hd : seqD d = some ds) : cIt c ρ = .ok ds ρ1 := by
  unfold cIt cFz
  simp only [h, R.bind, frz, hd]
theorem it_tmp {c : CE} {ρ ρ1 : Rho} {d : D} {ds : List D} (h : c ρ = .ok (.tmp d) ρ1) (hd : seqD d = some ds) : cIt c ρ = .ok ds ρ1 := by
  unfold cIt cFz
  simp only [h, R.bind, frz, hd]
theorem tupc_ok {c : CE} {ρ ρ1 : Rho} {ds : List D} (h : c ρ = .ok (.tmp (.list ds)) ρ1) : cFn fTuple (cCons c cNil) ρ = .ok (.val (.tuple ds)) ρ1 := fn1_ok h rfl rfl
/-! ### sorted ints -/
theorem sortI_perm (l : List Int) : (sortI l).Perm l := List.mergeSort_perm _ _
theorem sortI_pw (l : List Int) : (sortI l).Pairwise (· ≤ ·) := by
  have := List.pairwise_mergeSort (le := fun a b : Int => decide (a ≤ b)) (fun a b c h1 h2 => by simp at h1 h2 ⊢; omega) (fun a b => by simp; omega) l
  exact this.imp fun h => by simpa using h
theorem sortI_iff {l m : List Int} (hm : m.Pairwise (· ≤ ·)) : sortI l = m ↔ l.Perm m :=
  ⟨fun h => h ▸ (sortI_perm l).symm, fun h => List.Perm.eq_of_pairwise (le := (· ≤ ·)) (fun a b _ _ h1 h2 => Int.le_antisymm h1 h2) (sortI_pw l) hm ((sortI_perm l).trans h)⟩
theorem rgI_pw (a b : Int) : (rgI a b).Pairwise (· ≤ ·) := by
  unfold rgI
  rw [List.pairwise_map]
  exact List.pairwise_lt_range.imp fun h => by omega
/-! ### what is returned, what the parameters hold -/
def RS.rvo (n : Nat) : RS → Option (D × Bool × Rho)
  | .ret d fr ρ => some (d, fr, ρ.take n)
  | _ => none
theorem RS.rvo_ret {n : Nat} {r : RS} {d : D} {fr : Bool} {o : Rho} (h : r.rvo n = some (d, fr, o)) : ∃ ρ, r = .ret d fr ρ ∧ ρ.take n = o := by
  cases r with
  | ret a b q => simp only [RS.rvo, Option.some.injEq, Prod.mk.injEq] at h; obtain ⟨rfl, rfl, h⟩ := h; exact ⟨q, rfl, h⟩
  | nx o => cases h
  | exc x o => cases h
  | bad => cases h
theorem mkF_rvo {n m : Nat} {c : CS} {as : List (D × Md)} {d : D} {fr : Bool} {o : Rho} (hl : as.length = n) (h : (c (as.map some ++ List.replicate (m - n) none)).rvo n = some (d, fr, o)) : mkF n m c as = .ok d fr o := by
  obtain ⟨ρ', e, e2⟩ := RS.rvo_ret h
  unfold mkF
  simp only [hl, if_true, e, e2]
theorem seq_rvo {n : Nat} {a b : CS} {ρ ρ1 : Rho} {v : Option (D × Bool × Rho)} (h : a ρ = .nx ρ1) (h2 : (b ρ1).rvo n = v) : (cSeq a b ρ).rvo n = v := by rw [nx_seq h]; exact h2
theorem ret_rvo {n : Nat} {c : CE} {ρ ρ1 : Rho} {d : D} (h : c ρ = .ok (.val d) ρ1) : (cRet c ρ).rvo n = some (d, false, ρ1.take n) := by
  unfold cRet
  simp only [h, R.toS, retP]; rfl
theorem seq_nx {a b : CS} {ρ ρ1 : Rho} {r : RS} (h : a ρ = .nx ρ1) (h2 : b ρ1 = r) : cSeq a b ρ = r := by rw [nx_seq h]; exact h2
theorem ar_nil {ρ : Rho} : cNil ρ = .ok [] ρ := rfl
theorem ar_cons {a : CE} {r : CA} {ρ ρ1 ρ2 : Rho} {p : Pl} {ps : List Pl} (ha : a ρ = .ok p ρ1) (hr : r ρ1 = .ok ps ρ2) : cCons a r ρ = .ok (p :: ps) ρ2 := by
  unfold cCons
  simp only [ha, hr, R.bind]
theorem lst_ok {c : CA} {ρ ρ1 ρ2 : Rho} {ps : List Pl} {ds : List D} (h : c ρ = .ok ps ρ1) (hf : frzA ps ρ1 = some (ds, ρ2)) (hl : ds.length ≤ 16777216 := by simp) : cLst c ρ = .ok (.tmp (.list ds)) ρ2 := by
  unfold cLst
  simp only [h, R.bind, hf, hl, if_true]
theorem tup_ok {c : CA} {ρ ρ1 ρ2 : Rho} {ps : List Pl} {ds : List D} (h : c ρ = .ok ps ρ1) (hf : frzA ps ρ1 = some (ds, ρ2)) (hl : ds.length ≤ 16777216 := by simp) : cTup c ρ = .ok (.val (.tuple ds)) ρ2 := by
  unfold cTup
  simp only [h, R.bind, hf, hl, if_true]
theorem opAdd_tt {a b : List D} (h : a.length + b.length ≤ 16777216) : opAdd (.tuple a) (.tuple b) = some (.val (.tuple (a ++ b))) := if_pos h
theorem opAdd_ll {a b : List D} (h : a.length + b.length ≤ 16777216) : opAdd (.list a) (.list b) = some (.tmp (.list (a ++ b))) := if_pos h
theorem opMul_ii {i j : Int} (h : -1000000000 < i ∧ i < 1000000000) : opMul (.int i) (.int j) = some (.val (.int (i * j))) := by
  have : mulB i j = true := by
    unfold mulB
    simp only [Bool.or_eq_true, Bool.and_eq_true, decide_eq_true_eq]
    omega
  rw [opMul_i, if_pos this]
/-! ### comprehensions with a test -/
def elemT (g : D → Rho → Option Rho) (t : CB) (e : CE) (vs : List Nat) (ρ : Rho) (x : D) : Option (Option D × Rho) := match g x ρ with
  | some ρ1 => match t ρ1 with
    | .ok true ρ2 => match e ρ2 with
      | .ok p ρ3 => match frz p ρ3 with
        | some (d, ρ4) => if wipeOk ρ4 vs = true then some (some d, wipeR ρ4 vs) else none
        | none => none
      | _ => none
    | .ok false ρ2 => if wipeOk ρ2 vs = true then some (none, wipeR ρ2 vs) else none
    | _ => none
  | none => none
theorem compL_consT {g : D → Rho → Option Rho} {t : CB} {e : CE} {vs : List Nat} {ρ ρ' : Rho} {x : D} {o : Option D} {ds acc : List D} (h : elemT g t e vs ρ x = some (o, ρ')) (hl : acc.length < 16777216) :
    compL g t e vs (x :: ds) acc ρ = compL g t e vs ds (acc ++ o.toList) ρ' := by
  unfold elemT at h
  cases q : g x ρ with
  | none => simp only [q] at h; cases h
  | some ρ1 =>
    simp only [q] at h
    cases q1 : t ρ1 with
    | bad => simp only [q1] at h; cases h
    | exc y ρ3 => simp only [q1] at h; cases h
    | ok b ρ2 =>
      cases b with
      | false =>
        simp only [q1] at h
        by_cases hw : wipeOk ρ2 vs = true
        · rw [if_pos hw] at h
          simp only [Option.some.injEq, Prod.mk.injEq] at h
          obtain ⟨rfl, rfl⟩ := h
          simp only [compL, q, q1, hw, if_true, Option.toList, List.append_nil]
        · rw [if_neg hw] at h; cases h
      | true =>
        simp only [q1] at h
        cases q2 : e ρ2 with
        | bad => simp only [q2] at h; cases h
        | exc y ρ3 => simp only [q2] at h; cases h
        | ok p ρ3 =>
          simp only [q2] at h
          cases q3 : frz p ρ3 with
          | none => simp only [q3] at h; cases h
          | some w =>
            obtain ⟨d', ρ4⟩ := w
            simp only [q3] at h
            by_cases hw : wipeOk ρ4 vs = true
            · rw [if_pos hw] at h
              simp only [Option.some.injEq, Prod.mk.injEq] at h
              obtain ⟨rfl, rfl⟩ := h
              simp only [compL, q, q1, q2, q3, hl, hw, and_self, if_true, Option.toList]
            · rw [if_neg hw] at h; cases h
theorem compL_T {α : Type} {g : D → Rho → Option Rho} {t : CB} {e : CE} {vs : List Nat} {ρ : Rho} {f : α → D} {out : α → Option D} : ∀ (xs : List α) (acc : List D), acc.length + xs.length ≤ 16777216 → (∀ x, x ∈ xs → elemT g t e vs ρ (f x) = some (out x, ρ)) →
    compL g t e vs (xs.map f) acc ρ = .ok (acc ++ xs.filterMap out) ρ
  | [], acc, _, _ => by simp [compL]
  | x :: xs, acc, hl, h => by
    simp only [List.length_cons] at hl
    rw [List.map_cons, compL_consT (h x (List.mem_cons_self ..)) (by omega), compL_T xs _ (by cases out x <;> simp <;> omega) fun y hy => h y (List.mem_cons_of_mem _ hy)]
    cases q : out x <;> simp [q]
theorem comp_T {α : Type} {ci : CI} {g : D → Rho → Option Rho} {t : CB} {e : CE} {vs : List Nat} {ρ ρ1 : Rho} {xs : List α} {f : α → D} {out : α → Option D} (h1 : ci ρ = .ok (xs.map f) ρ1) (h2 : wipeOk ρ1 vs = true) (hl : xs.length ≤ 16777216)
    (h : ∀ x, x ∈ xs → elemT g t e vs (wipeR ρ1 vs) (f x) = some (out x, wipeR ρ1 vs)) : cComp ci g t e vs ρ = .ok (.tmp (.list (xs.filterMap out))) ρ1 := by
  unfold cComp
  simp only [h1, h2, if_true, compL_T xs [] (by simpa using hl) h, List.nil_append, back_wipe]
theorem rv_mkN {n m : Nat} {c : CS} {as : List (D × Md)} {ρ' : Rho} (hl : as.length = n) (h : c (as.map some ++ List.replicate (m - n) none) = .nx ρ') : (mkF n m c as).rv = some (.none, false) := by
  unfold mkF
  simp only [hl, if_true, h]; rfl
theorem drop_ok {c : CE} {ρ ρ1 : Rho} {p : Pl} (h : c ρ = .ok p ρ1) : cDrop c ρ = .nx ρ1 := by
  unfold cDrop
  simp only [h, R.toS]
theorem app_i {a : List D} {x : D} (h : a.length < 16777216) : fAppend (.list a) [x] = some (.list (a ++ [x]), .none) := if_pos h
theorem ext_l {a b : List D} (h : a.length + b.length ≤ 16777216) : fExtend (.list a) [.list b] = some (.list (a ++ b), .none) := if_pos h
theorem ext_t {a b : List D} (h : a.length + b.length ≤ 16777216) : fExtend (.list a) [.tuple b] = some (.list (a ++ b), .none) := if_pos h
theorem nodup_le {α : Type} [BEq α] [LawfulBEq α] : ∀ {r m : List α}, r.Nodup → (∀ x ∈ r, x ∈ m) → r.length ≤ m.length
  | [], _, _, _ => by simp
  | x :: r, m, h, hs => by
    rw [List.nodup_cons] at h
    have h1 := hs x (List.mem_cons_self ..)
    have := nodup_le (m := m.erase x) h.2 fun y hy => (List.mem_erase_of_ne (fun z : y = x => h.1 (by rw [← z]; exact hy))).mpr (hs y (List.mem_cons_of_mem _ hy))
    rw [List.length_erase_of_mem h1] at this
    have := List.length_pos_of_mem h1
    simp only [List.length_cons]
    omega
/-! ### sums -/
theorem sum_zero {α : Type} : ∀ l : List α, (l.map fun _ => (0 : Int)).sum = 0
  | [] => rfl
  | x :: l => by simp only [List.map_cons, List.sum_cons, sum_zero l]; rfl
theorem sum_congr {α : Type} {f g : α → Int} {l : List α} (h : ∀ x ∈ l, f x = g x) : (l.map f).sum = (l.map g).sum := by rw [List.map_congr_left h]
theorem sum_perm {l m : List Int} (h : l.Perm m) : l.sum = m.sum := by
  induction h with
  | nil => rfl
  | cons x _ ih => simp only [List.sum_cons, ih]
  | swap x y l => simp only [List.sum_cons]; omega
  | trans _ _ ih1 ih2 => rw [ih1, ih2]
theorem opNe_bool (a b : Bool) : opNe (.bool a) (.bool b) = some (.val (.bool (!(a == b)))) := by
  unfold opNe
  rw [if_pos ⟨rfl, rfl⟩, PyData.eqv]
theorem set_to {i : Nat} {c : CE} {ρ ρ1 ρ2 : Rho} {d : D} (h : c ρ = .ok (.val d) ρ1) (hs : canSet ρ1 i = true) (he : ρ1.set i (some (d, .fz)) = ρ2) : cSet i c ρ = .nx ρ2 := by rw [set_val h hs, he]
end TN
namespace TN
open PySem PySem.Spec PyProof.Rows L2

/-! ### webs, steps: what many laws look at -/
def ee_are_numbers_1 : CE := (cCall MMWhole (cCons (cVar 2) cNil))
def cc_are_numbers : CS := (cRet (cAndV (cUn (opIsi "tuple") (cVar 0)) (cAndV (cBin opEq (cFn fLen (cCons (cVar 0) cNil)) (cVar 1)) (cFn fAll (cCons (cComp (cIt (cVar 0)) (gNm 2) tTrue ee_are_numbers_1 [2]) cNil)))))
def MM_are_numbers : FM := mkF 2 3 cc_are_numbers
def cc_check_place : CS := (cIf (cOr (cNot (cTst (cCall MMWhole (cCons (cVar 1) cNil)))) (cOr (cTst (cBin opLt (cVar 1) (cLit (.int 0)))) (cTst (cBin opGe (cVar 1) (cBin opIx (cVar 0) (cLit (.int 0)))))))
  (cRaise "NoPlace")
  cSkip)
def MM_check_place : FM := mkF 2 2 cc_check_place
def ee_ties_at_1 : CE := (cVar 2)
def tt_ties_at_2 : CB := (cTst (cBin opIn (cVar 1) (cVar 3)))
def cc_ties_at : CS := (cSeq (cDrop (cCall MM_check_place (cCons (cVar 0) (cCons (cVar 1) cNil))))
  (cRet (cComp (cEnum (cBin opIx (cVar 0) (cLit (.int 1)))) (gTp 2 (gsCons (gNm 2) (gsCons (gNm 3) gsNil))) tt_ties_at_2 ee_ties_at_1 [2, 3])))
def MM_ties_at : FM := mkF 2 4 cc_ties_at
def ee_tie_counts_1 : CE := (cFn fLen (cCons (cCall MM_ties_at (cCons (cVar 0) (cCons (cVar 1) cNil))) cNil))
def cc_tie_counts : CS := (cRet (cFn fTuple (cCons (cComp (cRng1 (cBin opIx (cVar 0) (cLit (.int 0)))) (gNm 1) tTrue ee_tie_counts_1 [1]) cNil)))
def MM_tie_counts : FM := mkF 1 2 cc_tie_counts

def webD (n : Nat) (ts : List (Nat × Nat)) : D := .tuple [.int (n : Nat), .tuple (ts.map tieD)]
def absI (i : Int) : Int := if i < 0 then -i else i
def steps (ns : List Int) (ts : List (Nat × Nat)) : List Int := ts.map fun t => absI (ns.getD t.1 0 - ns.getD t.2 0)
theorem web_ties (n : Nat) (ts : List (Nat × Nat)) : opIx (webD n ts) (.int 1) = some (.val (.tuple (ts.map tieD))) := rfl
theorem web_n (n : Nat) (ts : List (Nat × Nat)) : opIx (webD n ts) (.int 0) = some (.val (.int (n : Nat))) := rfl
theorem ix_ints {ns : List Int} {k : Nat} (h : k < ns.length) : opIx (.tuple (ns.map .int)) (.int (k : Nat)) = some (.val (.int (ns.getD k 0))) := by
  rw [opIx_t, atI_ints h]; rfl
theorem ix_intsL {ns : List Int} {k : Nat} (h : k < ns.length) : opIx (.list (ns.map .int)) (.int (k : Nat)) = some (.val (.int (ns.getD k 0))) := by
  rw [opIx_l, atI_ints h]; rfl
theorem fn2_ok {f : List D → Option Pl} {a b : CE} {ρ ρ1 ρ2 : Rho} {p q r : Pl} {x y : D} (ha : a ρ = .ok p ρ1) (hb : b ρ1 = .ok q ρ2) (hx : look p ρ2 = some x) (hy : look q ρ2 = some y) (hf : f [x, y] = some r) : cFn f (cCons a (cCons b cNil)) ρ = .ok r ρ2 := by
  unfold cFn cCons cNil
  simp only [ha, hb, TN.R.bind, lookA, hx, hy, hf, TN.R.ofOpt]
/-! are_numbers -/
def numsOk (t : D) (n : Nat) : Bool := match t with
  | .tuple r => decide (r.length = n) && r.all isIntD
  | _ => false
theorem nums_run (t : D) {n : Nat} (hn : n ≤ 1000) : (MM_are_numbers [(t, .fz), (.int (n : Nat), .fz)]).rv = some (.bool (numsOk t n), false) := by
  refine rv_mkF rfl ?_
  show (cc_are_numbers [some (t, .fz), some (.int (n : Nat), .fz), none]).rv = _
  unfold cc_are_numbers
  cases t with
  | tuple r =>
    by_cases hl : r.length = n
    · have hc : cComp (cIt (cVar 0)) (gNm 2) tTrue ee_are_numbers_1 [2] [some (.tuple r, .fz), some (.int (n : Nat), .fz), none] = .ok (.tmp (.list (r.map fun x => .bool (isIntD x)))) [some (.tuple r, .fz), some (.int (n : Nat), .fz), none] := by
        refine comp_D (ds := r) (it_val (var_fz rfl) rfl) rfl (by omega) fun x hx => ?_
        simp [elem, ee_are_numbers_1, mkF, RS.rv, FR.rv, cSeq, cIf, cTst, cSet, cRet, cRetN, retP, cBin, cUn, cFn, cCons, cNil, cVar, cLit, cUnp, gPut, gNm, gTp, gsCons, gsNil, cFz, cDrop, cSkip, cAnd, cOr, cNot, cAndV, cOrV, cNotV, cIte, cTup, cLst, cCall, cPar, cAugI, cMutL, cMut, TN.R.bind, TN.R.toS, TN.R.toSB, look, lookA, TN.R.ofOpt, store, canSet, frzA, frz, plR, ownAt, opAdd_i, opAdd_t, opAdd_l, opAdd_s, opSub_i, opMul_i, opMod_i, opDiv_i, opPow_i, opNeg_i, opEq_int, opNe_int, opLt_i, opIx_l, opIx_t, opIsN_i, opNotN_i, fLen_l, fLen_t, fInt_i, fInt_b, fMax2_i, fMin2_i, fTuple_l, fTuple_t, fList_l, fList_t, fAppend_i, fExtend_l, fExtend_t, putA_i, cPart, cNoPart, cSl, opSl_l, opSl_t, wipeR, wipeOk, whole_call]
      have ha := fAll_map r isIntD
      simp [mkF, RS.rv, FR.rv, cSeq, cIf, cTst, cSet, cRet, cRetN, retP, cBin, cUn, cFn, cCons, cNil, cVar, cLit, cUnp, gPut, gNm, gTp, gsCons, gsNil, cFz, cDrop, cSkip, cAnd, cOr, cNot, cAndV, cOrV, cNotV, cIte, cTup, cLst, cCall, cPar, cAugI, cMutL, cMut, TN.R.bind, TN.R.toS, TN.R.toSB, look, lookA, TN.R.ofOpt, store, canSet, frzA, frz, plR, ownAt, opAdd_i, opAdd_t, opAdd_l, opAdd_s, opSub_i, opMul_i, opMod_i, opDiv_i, opPow_i, opNeg_i, opEq_int, opNe_int, opLt_i, opIx_l, opIx_t, opIsN_i, opNotN_i, fLen_l, fLen_t, fInt_i, fInt_b, fMax2_i, fMin2_i, fTuple_l, fTuple_t, fList_l, fList_t, fAppend_i, fExtend_l, fExtend_t, putA_i, cPart, cNoPart, cSl, opSl_l, opSl_t, isi_tuple, isTupD, hl, hc, ha, numsOk]
    · have hl2 : ¬ ((r.length : Int) = (n : Int)) := by omega
      simp [mkF, RS.rv, FR.rv, cSeq, cIf, cTst, cSet, cRet, cRetN, retP, cBin, cUn, cFn, cCons, cNil, cVar, cLit, cUnp, gPut, gNm, gTp, gsCons, gsNil, cFz, cDrop, cSkip, cAnd, cOr, cNot, cAndV, cOrV, cNotV, cIte, cTup, cLst, cCall, cPar, cAugI, cMutL, cMut, TN.R.bind, TN.R.toS, TN.R.toSB, look, lookA, TN.R.ofOpt, store, canSet, frzA, frz, plR, ownAt, opAdd_i, opAdd_t, opAdd_l, opAdd_s, opSub_i, opMul_i, opMod_i, opDiv_i, opPow_i, opNeg_i, opEq_int, opNe_int, opLt_i, opIx_l, opIx_t, opIsN_i, opNotN_i, fLen_l, fLen_t, fInt_i, fInt_b, fMax2_i, fMin2_i, fTuple_l, fTuple_t, fList_l, fList_t, fAppend_i, fExtend_l, fExtend_t, putA_i, cPart, cNoPart, cSl, opSl_l, opSl_t, isi_tuple, isTupD, hl2, hl, numsOk]
  | _ => simp [mkF, RS.rv, FR.rv, cSeq, cIf, cTst, cSet, cRet, cRetN, retP, cBin, cUn, cFn, cCons, cNil, cVar, cLit, cUnp, gPut, gNm, gTp, gsCons, gsNil, cFz, cDrop, cSkip, cAnd, cOr, cNot, cAndV, cOrV, cNotV, cIte, cTup, cLst, cCall, cPar, cAugI, cMutL, cMut, TN.R.bind, TN.R.toS, TN.R.toSB, look, lookA, TN.R.ofOpt, store, canSet, frzA, frz, plR, ownAt, opAdd_i, opAdd_t, opAdd_l, opAdd_s, opSub_i, opMul_i, opMod_i, opDiv_i, opPow_i, opNeg_i, opEq_int, opNe_int, opLt_i, opIx_l, opIx_t, opIsN_i, opNotN_i, fLen_l, fLen_t, fInt_i, fInt_b, fMax2_i, fMin2_i, fTuple_l, fTuple_t, fList_l, fList_t, fAppend_i, fExtend_l, fExtend_t, putA_i, cPart, cNoPart, cSl, opSl_l, opSl_t, isi_tuple, isTupD, numsOk]
/-! steps_good -/
/-! ties_at, tie_counts -/
theorem place_call {ρ : Rho} {n : Nat} {ts : List (Nat × Nat)} {k : Nat} (hk : k < n) : callM MM_check_place [.val (webD n ts), .val (.int (k : Nat))] ρ = .ok (.val .none) ρ := by
  have key : (MM_check_place [(webD n ts, .fz), (.int (k : Nat), .fz)]).rv = some (.none, false) := ?_
  · exact callM_rv rfl rfl key
  refine rv_mkN (ρ' := [some (webD n ts, .fz), some (.int (k : Nat), .fz)]) rfl ?_
  have h1 : ¬ ((k : Int) < 0) := by omega
  have h2 : ¬ ((n : Int) ≤ (k : Int)) := by omega
  have f1 : opLt (.int (k : Nat)) (.int 0) = some (.val (.bool false)) := by
    show some (Pl.val (.bool (decide ((k : Int) < 0)))) = _
    rw [decide_eq_false h1]
  have f2 : opGe (.int (k : Nat)) (.int (n : Nat)) = some (.val (.bool false)) := by
    show some (Pl.val (.bool (decide ((n : Int) ≤ (k : Int))))) = _
    rw [decide_eq_false h2]
  show cc_check_place [some (webD n ts, .fz), some (.int (k : Nat), .fz)] = .nx [some (webD n ts, .fz), some (.int (k : Nat), .fz)]
  exact if_no (or_no (not_ok (b := true) (tst_ok (call1_ok (var_fz rfl) (whole_call _)) rfl)) (or_no (tst_ok (bin_ok (var_fz rfl) rfl rfl rfl f1) rfl) (tst_ok (bin_ok (var_fz rfl) (bin_ok (var_fz rfl) rfl rfl rfl (web_n n ts)) rfl rfl f2) rfl))) rfl
theorem in_tie (t : Nat × Nat) (k : Nat) : opIn (.int (k : Nat)) (tieD t) = some (.val (.bool (hasP t k))) := by
  have h : SeqAt.shaped (.int (k : Nat)) = true ∧ SeqAt.shaped (tieD t) = true := ⟨rfl, shaped_tints [(t.1 : Int), (t.2 : Int)]⟩
  unfold tieD at h ⊢
  unfold opIn seqOf
  have e : ∀ a b : Nat, ((a : Int) == (b : Int)) = (a == b) := fun a b => by
    rw [Bool.eq_iff_iff, beq_iff_eq, beq_iff_eq]
    omega
  simp only [if_pos h, List.any_cons, List.any_nil, PyData.eqv, hasP, e, Bool.or_false]
def idxs (ts : List (Nat × Nat)) (k : Nat) : List D := ts.zipIdx.filterMap fun p => if hasP p.1 k = true then some (.int (p.2 : Nat)) else none
theorem idxs_len (ts : List (Nat × Nat)) (k : Nat) : (idxs ts k).length = deg ts k := by
  unfold idxs deg
  rw [List.length_filterMap_eq_countP]
  have : ∀ (ts : List (Nat × Nat)) (m : Nat), List.countP (fun a => (if hasP a.1 k = true then some (PyData.int (a.2 : Nat)) else none).isSome) (ts.zipIdx m) = List.countP (fun t => hasP t k) ts := by
    intro ts
    induction ts with
    | nil => intro m; rfl
    | cons t ts ih =>
      intro m
      rw [List.zipIdx_cons, List.countP_cons, List.countP_cons, ih]
      by_cases h : hasP t k = true <;> simp [h]
  exact this ts 0
theorem ties_run {n : Nat} {ts : List (Nat × Nat)} (h : WebOk n ts) {k : Nat} (hk : k < n) : (MM_ties_at [(webD n ts, .fz), (.int (k : Nat), .fz)]).rv = some (.list (idxs ts k), true) := by
  refine rv_mkF rfl ?_
  show (cc_ties_at [some (webD n ts, .fz), some (.int (k : Nat), .fz), none, none]).rv = _
  refine seq_rv (drop_ok (call2_ok (var_fz rfl) (var_fz rfl) (place_call hk))) (ret_rvT (ρ1 := [some (webD n ts, .fz), some (.int (k : Nat), .fz), none, none]) ?_)
  have hen : enumD (ts.map tieD) = ts.zipIdx.map fun p => .tuple [.int (p.2 : Nat), tieD p.1] := by
    unfold enumD
    rw [List.mapIdx_eq_zipIdx_map, List.zipIdx_map, List.map_map]
    rfl
  refine comp_T (xs := ts.zipIdx) (f := fun p => .tuple [.int (p.2 : Nat), tieD p.1]) ?_ rfl (by simp; have := h.tl; omega) fun p hp => ?_
  · have h1 := bin_ok (f := opIx) (a := cVar 0) (b := cLit (.int 1)) (ρ := [some (webD n ts, .fz), some (.int (k : Nat), .fz), none, none]) (var_fz rfl) rfl rfl rfl (web_ties n ts)
    unfold cEnum cFz
    simp only [h1, TN.R.bind, frz, seqOf, Option.map_some, hen]
  · have hg : gTp 2 (gsCons (gNm 2) (gsCons (gNm 3) gsNil)) (.tuple [.int (p.2 : Nat), tieD p.1]) [some (webD n ts, .fz), some (.int (k : Nat), .fz), none, none] = some [some (webD n ts, .fz), some (.int (k : Nat), .fz), some (.int (p.2 : Nat), .fz), some (tieD p.1, .fz)] := by
      simp [mkF, RS.rv, FR.rv, cSeq, cIf, cTst, cSet, cRet, cRetN, retP, cBin, cUn, cFn, cCons, cNil, cVar, cLit, cUnp, gPut, gNm, gTp, gsCons, gsNil, cFz, cDrop, cSkip, cAnd, cOr, cNot, cAndV, cOrV, cNotV, cIte, cTup, cLst, cCall, cPar, cAugI, cMutL, cMut, TN.R.bind, TN.R.toS, TN.R.toSB, look, lookA, TN.R.ofOpt, store, canSet, frzA, frz, plR, ownAt, opAdd_i, opAdd_t, opAdd_l, opAdd_s, opSub_i, opMul_i, opMod_i, opDiv_i, opPow_i, opNeg_i, opEq_int, opNe_int, opLt_i, opIx_l, opIx_t, opIsN_i, opNotN_i, fLen_l, fLen_t, fInt_i, fInt_b, fMax2_i, fMin2_i, fTuple_l, fTuple_t, fList_l, fList_t, fAppend_i, fExtend_l, fExtend_t, putA_i, cPart, cNoPart, cSl, opSl_l, opSl_t]
    have ht : tt_ties_at_2 [some (webD n ts, .fz), some (.int (k : Nat), .fz), some (.int (p.2 : Nat), .fz), some (tieD p.1, .fz)] = .ok (hasP p.1 k) _ := tst_ok (bin_ok (var_fz rfl) (var_fz rfl) rfl rfl (in_tie p.1 k)) rfl
    have he : ee_ties_at_1 [some (webD n ts, .fz), some (.int (k : Nat), .fz), some (.int (p.2 : Nat), .fz), some (tieD p.1, .fz)] = .ok (.val (.int (p.2 : Nat))) _ := var_fz rfl
    show elemT _ _ _ _ [some (webD n ts, .fz), some (.int (k : Nat), .fz), none, none] _ = some (_, [some (webD n ts, .fz), some (.int (k : Nat), .fz), none, none])
    unfold elemT
    simp only [hg, ht]
    cases hasP p.1 k with
    | true => simp only [he, frz]; rfl
    | false => rfl
theorem ties_call {ρ : Rho} {n : Nat} {ts : List (Nat × Nat)} (h : WebOk n ts) {k : Nat} (hk : k < n) : callM MM_ties_at [.val (webD n ts), .val (.int (k : Nat))] ρ = .ok (.tmp (.list (idxs ts k))) ρ := callM_rv rfl rfl (ties_run h hk)
theorem counts_run {n : Nat} {ts : List (Nat × Nat)} (h : WebOk n ts) : (MM_tie_counts [(webD n ts, .fz)]).rv = some (.tuple (((List.range n).map fun k => ((deg ts k : Nat) : Int)).map .int), false) := by
  have hnl := h.nl
  refine rv_mkF rfl ?_
  show (cc_tie_counts [some (webD n ts, .fz), none]).rv = _
  have hc : cComp (cRng1 (cBin opIx (cVar 0) (cLit (.int 0)))) (gNm 1) tTrue ee_tie_counts_1 [1] [some (webD n ts, .fz), none] = .ok (.tmp (.list ((List.range n).map fun k => .int ((deg ts k : Nat) : Int)))) [some (webD n ts, .fz), none] := by
    refine comp_map (xs := List.range n) (f := fun (k : Nat) => .int k) (rng1 (bin_ok (var_fz rfl) rfl rfl rfl (web_n n ts)) (by omega)) rfl (by simp; omega) fun k hk => ?_
    have hk' : k < n := by simpa using hk
    have he : ee_tie_counts_1 [some (webD n ts, .fz), some (.int (k : Nat), .fz)] = .ok (.val (.int ((deg ts k : Nat) : Int))) [some (webD n ts, .fz), some (.int (k : Nat), .fz)] := by
      have hl : fLen [.list (idxs ts k)] = some (.val (.int ((deg ts k : Nat) : Int))) := by rw [fLen_l, idxs_len]
      exact fn1_ok (call2_ok (var_fz rfl) (var_fz rfl) (ties_call h hk')) rfl hl
    have hg : gNm 1 (.int (k : Nat)) [some (webD n ts, .fz), none] = some [some (webD n ts, .fz), some (.int (k : Nat), .fz)] := rfl
    show elem _ _ _ [some (webD n ts, .fz), none] _ = some (_, [some (webD n ts, .fz), none])
    unfold elem
    simp only [hg, he, frz]
    rfl
  have := ret_rv (tupc_ok hc)
  rw [List.map_map]
  exact this
/-! lists of ties -/
end TN
namespace TN
open PySem PySem.Spec PyProof.Rows L2
/-! ### is, is not: truths and None -/
end TN
namespace TN
open PySem PySem.Spec PyProof.Rows L2

/-! ### a list of a name's own gone through, and the name's own still behind -/
section
variable {K : PySem.W.Frag} {L : L2.St} {B G G1 H H1 : Hp} {σ : L2.St} {ρ : Rho} {a : Addr} {o : HO} {xs : List V} {ds : List D} {j : Nat} {m : Md}
theorem Ext.keep {σ' : L2.St} {ρ' : Rho} {L' : L2.St} (ex : Ext (upd B a o) G G1) (r : Rel K L' (upd B a o) σ' ρ' G1 H1) (g : G a = none) (hn : ∀ vs, o ≠ .tup vs) : G1 a = none := by
  cases z : G1 a with
  | none => rfl
  | some o' =>
    rcases ex.new a (by rw [z]; simp) with w | w | ⟨us, w⟩
    · exact absurd g w
    · rw [upd_same] at w; cases w
    · have z1 := r.sub _ _ w
      have z2 := r.base a _ upd_same
      rw [z1] at z2; cases z2
      exact (hn _ rfl).elim
theorem Rel.hold (r : Rel K L B σ ρ G H) (q : ρ[j]? = some (some (.list ds, m))) (hm : m.isFz = false) : ∃ a xs, σ[j]? = some (some (.ref a)) ∧ G a = none ∧ B a = none ∧ H a = some (.lst xs) ∧ FzA K G xs ds ∧
    Rel K (L.set j none) (upd B a (.lst xs)) σ (ρ.set j none) G H ∧ ∀ v, L[j]? = some (some v) → σ[j]? = some (some v) ∧ (m = .lent ∨ m = .lz) := by
  obtain ⟨v, hv, hs⟩ := r.slots j _ q
  obtain ⟨a, rfl, hG, hB, c⟩ := hs.own hm
  cases c with
  | @lst xs _ hH fx =>
  have hlt : j < ρ.length := (List.getElem?_eq_some_iff.mp q).1
  have out : ∀ {i : Nat} {p : D × Md}, (ρ.set j none)[i]? = some (some p) → i ≠ j ∧ ρ[i]? = some (some p) := fun {i p} h => by
    by_cases hj : i = j
    · subst hj; rw [List.getElem?_set_self hlt] at h; cases h
    · rw [List.getElem?_set_ne (Ne.symm hj)] at h; exact ⟨hj, h⟩
  have r0 : Rel K (L.set j none) B σ (ρ.set j none) G H := by
    refine ⟨r.sub, r.base, by simpa using r.len, fun i p hp => r.slots i p (out hp).2, fun i k p p' w hik hp hp' hf hf' hw => r.sep i k p p' w hik (out hp).2 (out hp').2 hf hf' hw, fun i w hw => ?_⟩
    have hij : i ≠ j := fun z => by
      subst z
      by_cases hl : i < L.length
      · rw [List.getElem?_set_self hl] at hw; cases hw
      · rw [List.getElem?_eq_none (by simpa using hl)] at hw; cases hw
    rw [List.getElem?_set_ne (Ne.symm hij)] at hw
    obtain ⟨h1, d1, m1, h2, h3⟩ := r.lent i w hw
    exact ⟨h1, d1, m1, by rw [List.getElem?_set_ne (Ne.symm hij)]; exact h2, h3⟩
  refine ⟨a, xs, hv, hG, hB, hH, fx, r0.addB hB hH fun i p hp hf hw => ?_, fun w hw => ?_⟩
  · obtain ⟨hij, hp'⟩ := out hp
    exact r.sep i j p (.list ds, m) (.ref a) hij hp' q hf hm hw hv
  · obtain ⟨h1, d1, m1, h2, h3⟩ := r.lent j w hw
    rw [q] at h2; cases h2
    exact ⟨h1, h3⟩
end
section
variable {X : Cx} {elt tg iter : Expr} {ifs : List Expr} {scope : Scope} {own : List (Str × Nat)} {pos : Pos} {ci : CI} {g : D → Rho → Option Rho} {t : CB} {e : CE}
variable {ws : List Nat} {x y : Str} {py px spos : Pos} {j : Nat}
end
end TN
namespace TN
open PySem PySem.Spec PyProof.Rows L2

/-! ### chains of three: a op b op c op d -/
def tChain3 (r r' r'' : R2) (ta tb tc td : TE) : TE := fun σ H Q => ta σ H fun x H1 => tb σ H1 fun y H2 => r x y H2 fun z H3 => ∃ k, z = .bl k ∧
  (if k = true then tc σ H3 fun w' H4 => r' y w' H4 fun z2 H5 => ∃ k2, z2 = .bl k2 ∧ (if k2 = true then td σ H5 fun v' H6 => r'' w' v' H6 Q else Q (.bl false) H5) else Q (.bl false) H3)
section
variable {X : Cx} {a b c d : Expr} {ta tb tc td : TE} {pos : Pos} {op op' op'' : CmpOp} {r r' r'' : R2}
theorem pt_chain3 (ho : OpR X (compareOp op) r) (ho' : OpR X (compareOp op') r') (ho'' : OpR X (compareOp op'') r'') (ha : PE X a ta) (hb : PE X b tb) (hc : PE X c tc) (hd : PE X d td)
    (hm : lastMarks [op, op', op''] [b, c, d] = false := by with_unfolding_all rfl) : PT X (.Compare a [op, op', op''] [b, c, d] pos) (tTest (tChain3 r r' r'' ta tb tc td)) := by
  refine ⟨fun pins s σ H Q I h => ?_⟩
  refine isTrue_chain (thn (ha.run pins s σ H _ I h) fun v s1 ⟨x, H1, I1, r1, q1⟩ => test_link (thn (hb.run pins s1 σ H1 _ I1 q1) fun u s2 ⟨y, H2, I2, r2, q2⟩ =>
    thn (ho pins s2 σ H2 x y v u _ I2 r1 r2 q2) fun d1 s3 ⟨z, H3, I3, r3, k, e, q3⟩ => ?_)) hm
  subst e
  cases r3
  refine wpAny_truthy_bool ?_
  cases k with
  | false =>
    obtain ⟨k', e', q'⟩ := q3
    cases e'
    exact ite_ff ⟨H3, I3, q'⟩
  | true =>
    refine ite_tt (test_link (thn (hc.run pins s3 σ H3 _ I3 q3) fun w' s4 ⟨z', H4, I4, r4, q4⟩ => thn (ho' pins s4 σ H4 y z' u w' _ I4 r2 r4 q4) fun d2 s5 ⟨z2, H5, I5, r5, k2, e2, q5⟩ => ?_))
    subst e2
    cases r5
    refine wpAny_truthy_bool ?_
    cases k2 with
    | false =>
      obtain ⟨k', e', q'⟩ := q5
      cases e'
      exact ite_ff ⟨H5, I5, q'⟩
    | true =>
      refine ite_tt (test_last (thn (hd.run pins s5 σ H5 _ I5 q5) fun w2 s6 ⟨z3, H6, I6, r6, q6⟩ => thn (ho'' pins s6 σ H6 z' z3 w' w2 _ I6 r4 r6 q6) fun d3 s7 ⟨z4, H7, I7, r7, k3, e3, q7⟩ => ?_))
      subst e3
      cases r7
      exact wpAny_truthy_bool ⟨H7, I7, q7⟩
end
/-- behind the first comparison, q's value in hand -/
def cLink (f g : D → D → Option Pl) (q : Pl) (c d : CE) : CE := fun ρ2 => (c ρ2).bind fun r ρ3 => match look q ρ3, look r ρ3 with
  | some y, some z => match f y z with
    | some (.val (.bool true)) => (d ρ3).bind fun s ρ4 => match look r ρ4, look s ρ4 with
      | some z, some w => .ofOpt (g z w) ρ4
      | _, _ => .bad
    | some (.val (.bool false)) => .ok (.val (.bool false)) ρ3
    | _ => .bad
  | _, _ => .bad
def cChain3 (e f g : D → D → Option Pl) (a b c d : CE) : CE := fun ρ => (a ρ).bind fun p ρ1 => (b ρ1).bind fun q ρ2 => match look p ρ2, look q ρ2 with
  | some x, some y => match e x y with
    | some (.val (.bool true)) => cLink f g q c d ρ2
    | some (.val (.bool false)) => .ok (.val (.bool false)) ρ2
    | _ => .bad
  | _, _ => .bad
section
variable {X : Cx} {a b c d : Expr} {ca cb cc cd : CE} {pos : Pos} {op op' op'' : CmpOp} {r r' r'' : R2} {e f g : D → D → Option Pl}
theorem chain3_imp {W : WX} (hr : OpOk X.K r e) (hr' : OpOk X.K r' f) (hr'' : OpOk X.K r'' g) : ∀ (σ : L2.St) (H : Hp) (Q : VK), tX X W (cChain3 e f g ca cb cc cd) σ H Q → tChain3 r r' r'' (tX X W ca) (tX X W cb) (tX X W cc) (tX X W cd) σ H Q := by
  rintro σ H Q ⟨L, ρ, G, B, rel, h⟩
  refine ⟨L, ρ, G, B, rel, (Got.bind h).mono ?_⟩
  rintro x H1 ⟨p, ρ1, G1, _, rel1, _, fx1, h1⟩
  refine ⟨L, ρ1, G1, B, rel1, (Got.bind h1).mono ?_⟩
  rintro y H2 ⟨q, ρ2, G2, _, rel2, ext2, fx2, h2⟩
  cases e1 : look p ρ2 with
  | none => simp only [e1] at h2; exact h2.elim
  | some dx =>
  cases e2 : look q ρ2 with
  | none => simp only [e1, e2] at h2; exact h2.elim
  | some dy =>
  simp only [e1, e2] at h2
  have ok := hr G2 H2 x y dx dy
  cases e3 : e dx dy with
  | none => simp only [e3] at h2; exact h2.elim
  | some pl =>
  simp only [e3] at h2
  refine ok pl _ rel2.sub ((fx1.mono ext2.same).look rel2 e1) (fx2.look rel2 e2) e3 fun v H' ps => ?_
  split at h2
  · rename_i heq
    cases heq
    cases ps with
    | fz hv =>
    cases hv
    refine ⟨true, rfl, ?_⟩
    rw [if_pos rfl]
    unfold cLink at h2
    refine ⟨L, ρ2, G2, B, rel2, (Got.bind h2).mono ?_⟩
    rintro z H3 ⟨r3, ρ3, G3, _, rel3, ext3, fx3, h3⟩
    cases e4 : look q ρ3 with
    | none => simp only [e4] at h3; exact h3.elim
    | some dy' =>
    cases e5 : look r3 ρ3 with
    | none => simp only [e4, e5] at h3; exact h3.elim
    | some dz =>
    simp only [e4, e5] at h3
    cases e6 : f dy' dz with
    | none => simp only [e6] at h3; exact h3.elim
    | some pl =>
    simp only [e6] at h3
    refine hr' G3 H3 y z dy' dz pl _ rel3.sub ((fx2.mono ext3.same).look rel3 e4) (fx3.look rel3 e5) e6 fun v H' ps => ?_
    split at h3
    · rename_i heq
      cases heq
      cases ps with
      | fz hv =>
      cases hv
      refine ⟨true, rfl, ?_⟩
      rw [if_pos rfl]
      refine ⟨L, ρ3, G3, B, rel3, (Got.bind h3).mono ?_⟩
      rintro z2 H4 ⟨r4, ρ4, G4, _, rel4, ext4, fx4, h4⟩
      cases e7 : look r3 ρ4 with
      | none => simp only [e7] at h4; exact h4.elim
      | some dz' =>
      cases e8 : look r4 ρ4 with
      | none => simp only [e7, e8] at h4; exact h4.elim
      | some dw =>
      simp only [e7, e8] at h4
      cases e9 : g dz' dw with
      | none => simp only [e9] at h4; exact h4.elim
      | some pl =>
      simp only [e9] at h4
      exact hr'' G4 H4 z z2 dz' dw pl Q rel4.sub ((fx3.mono ext4.same).look rel4 e7) (fx4.look rel4 e8) e9 fun v H' ps => Got.done rel4 h4 ps
    · rename_i heq
      cases heq
      cases ps with
      | fz hv =>
      cases hv
      refine ⟨false, rfl, ?_⟩
      rw [if_neg Bool.false_ne_true]
      exact h3 _ H3 G3 rel3 .refl (.bl false)
    · exact h3.elim
  · rename_i heq
    cases heq
    cases ps with
    | fz hv =>
    cases hv
    refine ⟨false, rfl, ?_⟩
    rw [if_neg Bool.false_ne_true]
    exact h2 _ H2 G2 rel2 .refl (.bl false)
  · exact h2.elim
theorem st_chain3 (ho : OpR X (compareOp op) r) (hr : OpOk X.K r e) (ho' : OpR X (compareOp op') r') (hr' : OpOk X.K r' f) (ho'' : OpR X (compareOp op'') r'') (hr'' : OpOk X.K r'' g) (ha : SX X a ca) (hb : SX X b cb) (hc : SX X c cc) (hd : SX X d cd)
    (hm : lastMarks [op, op', op''] [b, c, d] = false := by with_unfolding_all rfl) : ST X (.Compare a [op, op', op''] [b, c, d] pos) (cTst (cChain3 e f g ca cb cc cd)) := fun W tk =>
  PTimp (pt_chain3 ho ho' ho'' (ha W tk) (hb W tk) (hc W tk) (hd W tk) hm) fun σ H Q h => chain3_imp hr hr' hr'' σ H _ (tst_imp σ H Q h)
end
end TN
namespace TN
open PySem PySem.Spec PyProof.Rows L2
/-! ### <, >= of tuples of ints -/
end TN
namespace TN
open PySem PySem.Spec PyProof.Rows L2

/-! ### webs by drawn ties -/
def bb__law_web_by_1 : CS := (cIf (cTst (cBin opGt (cCall MMDraw (cCons (cVar 0) (cCons (cLit (.int 8)) cNil))) (cLit (.int 0))))
  (cUnp (gPut 3 putA (cTup (cCons (cCall MMDraw (cCons (cVar 0) (cCons (cVar 5) cNil))) (cCons (cVar 5) cNil)))) (cLit (.bool true)))
  cSkip)
def bb__law_web_by_2 : CS := (cSeq (cSet 6 (cCall MMDraw (cCons (cVar 0) (cCons (cVar 2) cNil))))
  (cSeq (cSet 7 (cCall MMDraw (cCons (cVar 0) (cCons (cVar 2) cNil))))
  (cIf (cAnd (cTst (cBin opNe (cVar 6) (cVar 7))) (cTst (cBin opLt (cFn fLen (cCons (cVar 3) cNil)) (cLit (.int 60)))))
  (cUnp (gPut 3 putA (cTup (cCons (cFn fMin2 (cCons (cVar 6) (cCons (cVar 7) cNil))) (cCons (cFn fMax2 (cCons (cVar 6) (cCons (cVar 7) cNil))) cNil)))) (cLit (.bool true)))
  cSkip)))
def cc__law_web_by : CS := (cSeq (cSet 2 (cBin opAdd (cLit (.int 1)) (cCall MMDraw (cCons (cVar 0) (cCons (cVar 1) cNil)))))
  (cSeq (cSet 3 cNewT)
  (cSeq (cIf (cTst (cBin opGt (cCall MMDraw (cCons (cVar 0) (cCons (cLit (.int 3)) cNil))) (cLit (.int 0))))
  (cFor (cRng2 (cLit (.int 1)) (cVar 2)) (gNm 5)
  bb__law_web_by_1)
  cSkip)
  (cSeq (cFor (cRng1 (cBin opIx (cLst (cCons (cLit (.int 0)) (cCons (cLit (.int 3)) (cCons (cVar 2) (cCons (cBin opMul (cLit (.int 2)) (cVar 2)) cNil))))) (cCall MMDraw (cCons (cVar 0) (cCons (cLit (.int 4)) cNil))))) (gNm 4)
  bb__law_web_by_2)
  (cRet (cTup (cCons (cVar 2) (cCons (cFn fTuple (cCons (cFn fSorted (cCons (cFn fListA (cCons (cVar 3) cNil)) cNil)) cNil)) cNil))))))))
def MM__law_web_by : FM := mkF 2 8 cc__law_web_by

/-! more steps -/
theorem fz_ok {c : CE} {ρ ρ1 : Rho} {d : D} (h : c ρ = .ok (.val d) ρ1) : cFz c some ρ = .ok d ρ1 := by
  unfold cFz
  simp only [h, TN.R.bind, frz]
theorem put_ok {i : Nat} {f : D → D → D → Option D} {ck : CE} {d x k c c' : D} {m m0 : Md} {ρ ρ2 : Rho} (h0 : ownAt i ρ = some (x, m0)) (hk : ck ρ = .ok (.val k) ρ2) (h2 : ownAt i ρ2 = some (c, m)) (hf : f c k d = some c') : gPut i f ck d ρ = some (ρ2.set i (some (c', m))) := by
  unfold gPut
  simp only [h0, fz_ok hk, h2, hf]
theorem unp_ok {g : D → Rho → Option Rho} {c : CE} {ρ ρ1 ρ2 : Rho} {d : D} (h : c ρ = .ok (.val d) ρ1) (hg : g d ρ1 = some ρ2) : cUnp g c ρ = .nx ρ2 := by
  unfold cUnp
  simp only [h, TN.R.toS, frz, hg]
theorem body_ok {g : D → Rho → Option Rho} {b : CS} {x : D} {ρ ρ1 : Rho} {r : RS} (hg : g x ρ = some ρ1) (hb : b ρ1 = r) : body g b x ρ = r := by
  unfold body
  simp only [hg, hb]
theorem dr_ok {i : Nat} {ρ : Rho} {p : Pen} {md : Md} {m : Int} {c : CE} (hi : ρ[i]? = some (some (p.d, md))) (hm : md = .own ∨ md = .lent) (hc : c ρ = .ok (.val (.int m)) ρ) (h0 : 0 < m) (h1 : m < 1000000000) :
    cCall MMDraw (cCons (cVar i) (cCons c cNil)) ρ = .ok (.val (.int (p.draw m))) (ρ.set i (some ((p.next m).d, md))) :=
  call2_ok (by rcases hm with rfl | rfl; exact var_own hi; exact var_lent hi) hc (draw_call hi hm h0 (by omega))
theorem dr_nat (p : Pen) {m : Nat} (h : 0 < m) : ∃ a : Nat, a < m ∧ p.draw (m : Int) = (a : Int) := by
  have h1 := p.draw_ge (m := (m : Int)) (by omega)
  have h2 := p.draw_lt (m := (m : Int)) (by omega)
  exact ⟨(p.draw m).toNat, by omega, by omega⟩
theorem gt_ok {a : CE} {ρ ρ1 : Rho} {i : Int} {b : Bool} (h : a ρ = .ok (.val (.int i)) ρ1) (hb : decide (0 < i) = b) : cTst (cBin opGt a (cLit (.int 0))) ρ = .ok b ρ1 :=
  tst_ok (bin_ok h rfl rfl rfl (r := .val (.bool b)) (by rw [← hb]; rfl)) rfl
/-! the dict of ties -/
def dictD (F : List (Nat × Nat)) : D := .dict ((.none, .none) :: F.map fun t => (tieD t, .bool true))
def addT (F : List (Nat × Nat)) (t : Nat × Nat) : List (Nat × Nat) := if t ∈ F then F else F ++ [t]
theorem tk_tie (t u : Nat × Nat) : (tkOf (tieD t) = some [.inl (u.1 : Int), .inl (u.2 : Int)]) ↔ t = u := by
  have : tkOf (tieD t) = some [.inl (t.1 : Int), .inl (t.2 : Int)] := rfl
  rw [this]
  obtain ⟨a, b⟩ := t
  obtain ⟨c, d⟩ := u
  simp
  omega
theorem lookT_tie (u : Nat × Nat) : ∀ F : List (Nat × Nat), lookT (F.map fun t => (tieD t, PyData.bool true)) [.inl (u.1 : Int), .inl (u.2 : Int)] = if u ∈ F then some (.bool true) else none
  | [] => rfl
  | t :: F => by
    simp only [List.map_cons, lookT, tk_tie, lookT_tie u F, List.mem_cons]
    by_cases h : t = u
    · simp [h]
    · simp [h, Ne.symm h]
theorem put_tie {F : List (Nat × Nat)} (t : Nat × Nat) (h : F.length < 16777216) : putA (dictD F) (tieD t) (.bool true) = some (dictD (addT F t)) := by
  have hk : tkOf (tieD t) = some [.inl (t.1 : Int), .inl (t.2 : Int)] := rfl
  show (dPut ((.none, .none) :: F.map fun t => (tieD t, PyData.bool true)) (tieD t) (.bool true)).map PyData.dict = _
  unfold dPut
  simp only [hk, List.length_map, h, if_true, Option.map_some]
  unfold putT addT dictD
  rw [lookT_tie]
  by_cases hm : t ∈ F
  · simp only [hm, if_true, Option.isSome]
    congr 2
    rw [List.map_map, List.cons.injEq]
    refine ⟨rfl, List.map_congr_left fun u hu => ?_⟩
    show (if tkOf (tieD u) = _ then _ else _) = _
    split <;> rfl
  · simp [hm, tkD, keyD, tieD]
theorem fLen_dict (F : List (Nat × Nat)) : fLen [dictD F] = some (.val (.int (F.length : Nat))) := by
  simp [fLen, dictD, dLen]
theorem keys_dict (F : List (Nat × Nat)) : fListA [dictD F] = some (.tmp (.list (F.map tieD))) := by
  have : dKeys ((.none, .none) :: F.map fun t => (tieD t, PyData.bool true)) = F.map tieD := by
    show (F.map fun t => (tieD t, PyData.bool true)).map (·.1) = F.map tieD
    rw [List.map_map]; rfl
  show some (Pl.tmp (.list (dKeys _))) = _
  rw [this]
structure Ties (n : Nat) (F : List (Nat × Nat)) : Prop where
  lt : ∀ t ∈ F, t.1 < t.2 ∧ t.2 < n
  nd : F.Nodup
theorem Ties.add {n : Nat} {F : List (Nat × Nat)} (h : Ties n F) {t : Nat × Nat} (h1 : t.1 < t.2) (h2 : t.2 < n) : Ties n (addT F t) := by
  unfold addT
  by_cases hm : t ∈ F
  · rw [if_pos hm]; exact h
  · rw [if_neg hm]
    refine ⟨fun u hu => ?_, ?_⟩
    · rcases List.mem_append.mp hu with hu | hu
      · exact h.lt u hu
      · have : u = t := by simpa using hu
        subst this; exact ⟨h1, h2⟩
    · rw [List.nodup_append]
      refine ⟨h.nd, by simp, fun a ha b hb e => ?_⟩
      have : b = t := by simpa using hb
      subst this; subst e; exact hm ha
theorem addT_len (F : List (Nat × Nat)) (t : Nat × Nat) : (addT F t).length ≤ F.length + 1 := by
  unfold addT; split <;> simp
theorem wb1 (p : Pen) (s1 s6 s7 : Slot) (n k : Nat) (hk : k < n) (hk1 : 1 ≤ k) (hn : n ≤ 40) (F : List (Nat × Nat)) (hF : F.length ≤ 1000) (hT : Ties n F) (j4 j5 : Option D) :
    ∃ p' F', Ties n F' ∧ F'.length ≤ F.length + 1 ∧ body (gNm 5) bb__law_web_by_1 (.int (k : Nat)) [some (p.d, .lent), s1, some (.int (n : Nat), .fz), some (dictD F, .own), jk j4, jk j5, s6, s7] = .nx [some (Pen.d p', .lent), s1, some (.int (n : Nat), .fz), some (dictD F', .own), jk j4, jk (some (.int (k : Nat))), s6, s7] := by
  have hset : gNm 5 (.int (k : Nat)) [some (p.d, .lent), s1, some (.int (n : Nat), .fz), some (dictD F, .own), jk j4, jk j5, s6, s7] = some [some (p.d, .lent), s1, some (.int (n : Nat), .fz), some (dictD F, .own), jk j4, some (.int (k : Nat), .fz), s6, s7] := by
    cases j5 <;> rfl
  have hd := dr_ok (i := 0) (ρ := [some (p.d, .lent), s1, some (.int (n : Nat), .fz), some (dictD F, .own), jk j4, some (.int (k : Nat), .fz), s6, s7]) (c := cLit (.int 8)) rfl (.inr rfl) rfl (by decide) (by decide)
  by_cases h8 : 0 < p.draw 8
  · obtain ⟨a, ha, ea⟩ := dr_nat (p.next 8) (m := k) (by omega)
    refine ⟨(p.next 8).next k, addT F (a, k), hT.add (by omega) (by omega), addT_len _ _, body_ok hset (if_yes (gt_ok hd (decide_eq_true h8)) ?_)⟩
    have h2 := dr_ok (i := 0) (p := p.next 8) (md := .lent) (m := (k : Nat)) (ρ := [some ((p.next 8).d, .lent), s1, some (.int (n : Nat), .fz), some (dictD F, .own), jk j4, some (.int (k : Nat), .fz), s6, s7]) (c := cVar 5) rfl (.inr rfl) (var_fz rfl) (by omega) (by omega)
    rw [ea] at h2
    refine unp_ok rfl (put_ok (x := dictD F) (m0 := .own) rfl (tup_ok (ar_cons h2 (ar_cons (var_fz rfl) ar_nil)) rfl) rfl (put_tie (a, k) (by omega)))
  · exact ⟨p.next 8, F, hT, by omega, body_ok hset (if_no (gt_ok hd (decide_eq_false h8)) rfl)⟩
theorem wb2 (p : Pen) (s1 : Slot) (n : Nat) (hn1 : 1 ≤ n) (hn : n ≤ 40) (F : List (Nat × Nat)) (hF : F.length ≤ 60) (hT : Ties n F) (j4 j5 j6 j7 : Option D) (x : D) :
    ∃ p' F' j6' j7', Ties n F' ∧ F'.length ≤ 60 ∧ body (gNm 4) bb__law_web_by_2 x [some (p.d, .lent), s1, some (.int (n : Nat), .fz), some (dictD F, .own), jk j4, jk j5, jk j6, jk j7] = .nx [some (Pen.d p', .lent), s1, some (.int (n : Nat), .fz), some (dictD F', .own), jk (some x), jk j5, jk j6', jk j7'] := by
  have hset : gNm 4 x [some (p.d, .lent), s1, some (.int (n : Nat), .fz), some (dictD F, .own), jk j4, jk j5, jk j6, jk j7] = some [some (p.d, .lent), s1, some (.int (n : Nat), .fz), some (dictD F, .own), jk (some x), jk j5, jk j6, jk j7] := by
    cases j4 <;> rfl
  obtain ⟨a, ha, ea⟩ := dr_nat p (m := n) (by omega)
  obtain ⟨b, hb, eb⟩ := dr_nat (p.next n) (m := n) (by omega)
  have d1 := dr_ok (i := 0) (ρ := [some (p.d, .lent), s1, some (.int (n : Nat), .fz), some (dictD F, .own), jk (some x), jk j5, jk j6, jk j7]) (c := cVar 2) rfl (.inr rfl) (var_fz rfl) (m := (n : Nat)) (by omega) (by omega)
  rw [ea] at d1
  have d2 := dr_ok (i := 0) (p := p.next n) (md := .lent) (ρ := [some ((p.next n).d, .lent), s1, some (.int (n : Nat), .fz), some (dictD F, .own), jk (some x), jk j5, some (.int (a : Nat), .fz), jk j7]) (c := cVar 2) rfl (.inr rfl) (var_fz rfl) (m := (n : Nat)) (by omega) (by omega)
  rw [eb] at d2
  have e1 : cSet 6 (cCall MMDraw (cCons (cVar 0) (cCons (cVar 2) cNil))) [some (p.d, .lent), s1, some (.int (n : Nat), .fz), some (dictD F, .own), jk (some x), jk j5, jk j6, jk j7] = .nx [some ((p.next n).d, .lent), s1, some (.int (n : Nat), .fz), some (dictD F, .own), jk (some x), jk j5, some (.int (a : Nat), .fz), jk j7] :=
    set_to d1 (by cases j6 <;> rfl) rfl
  have e2 : cSet 7 (cCall MMDraw (cCons (cVar 0) (cCons (cVar 2) cNil))) [some ((p.next n).d, .lent), s1, some (.int (n : Nat), .fz), some (dictD F, .own), jk (some x), jk j5, some (.int (a : Nat), .fz), jk j7] = .nx [some (((p.next n).next n).d, .lent), s1, some (.int (n : Nat), .fz), some (dictD F, .own), jk (some x), jk j5, some (.int (a : Nat), .fz), some (.int (b : Nat), .fz)] :=
    set_to d2 (by cases j7 <;> rfl) rfl
  have t1 : cTst (cBin opNe (cVar 6) (cVar 7)) [some (((p.next n).next n).d, .lent), s1, some (.int (n : Nat), .fz), some (dictD F, .own), jk (some x), jk j5, some (.int (a : Nat), .fz), some (.int (b : Nat), .fz)] = .ok (!decide ((a : Int) = (b : Int))) _ := tst_ok (bin_ok (var_fz rfl) (var_fz rfl) rfl rfl (opNe_int _ _)) rfl
  have t2 : cTst (cBin opLt (cFn fLen (cCons (cVar 3) cNil)) (cLit (.int 60))) [some (((p.next n).next n).d, .lent), s1, some (.int (n : Nat), .fz), some (dictD F, .own), jk (some x), jk j5, some (.int (a : Nat), .fz), some (.int (b : Nat), .fz)] = .ok (decide ((F.length : Int) < 60)) _ := tst_ok (bin_ok (fn1_ok (var_own rfl) rfl (fLen_dict F)) rfl rfl rfl (opLt_i _ _ _)) rfl
  have skip : ∀ {t : CB}, t [some (((p.next n).next n).d, .lent), s1, some (.int (n : Nat), .fz), some (dictD F, .own), jk (some x), jk j5, some (.int (a : Nat), .fz), some (.int (b : Nat), .fz)] = .ok false [some (((p.next n).next n).d, .lent), s1, some (.int (n : Nat), .fz), some (dictD F, .own), jk (some x), jk j5, some (.int (a : Nat), .fz), some (.int (b : Nat), .fz)] → ∀ c, cIf t c cSkip [some (((p.next n).next n).d, .lent), s1, some (.int (n : Nat), .fz), some (dictD F, .own), jk (some x), jk j5, some (.int (a : Nat), .fz), some (.int (b : Nat), .fz)] = .nx [some (((p.next n).next n).d, .lent), s1, some (.int (n : Nat), .fz), some (dictD F, .own), jk (some x), jk j5, some (.int (a : Nat), .fz), some (.int (b : Nat), .fz)] := fun h c => if_no h rfl
  by_cases hab : (a : Int) = (b : Int)
  · rw [decide_eq_true hab] at t1
    exact ⟨(p.next n).next n, F, some (.int (a : Nat)), some (.int (b : Nat)), hT, hF, body_ok hset (seq_nx e1 (seq_nx e2 (skip (and_no t1) _)))⟩
  · rw [decide_eq_false hab] at t1
    by_cases hl : (F.length : Int) < 60
    · rw [decide_eq_true hl] at t2
      have hmin : fMin2 [.int (a : Nat), .int (b : Nat)] = some (.val (.int ((min a b : Nat) : Int))) := by
        rw [fMin2_i]
        by_cases h : (b : Int) < a
        · rw [if_pos h, Nat.min_eq_right (by omega)]
        · rw [if_neg h, Nat.min_eq_left (by omega)]
      have hmax : fMax2 [.int (a : Nat), .int (b : Nat)] = some (.val (.int ((max a b : Nat) : Int))) := by
        rw [fMax2_i]
        by_cases h : (b : Int) > a
        · rw [if_pos h, Nat.max_eq_right (by omega)]
        · rw [if_neg h, Nat.max_eq_left (by omega)]
      refine ⟨(p.next n).next n, addT F (min a b, max a b), some (.int (a : Nat)), some (.int (b : Nat)), hT.add (by simp only; omega) (by simp only; omega), ?_, body_ok hset (seq_nx e1 (seq_nx e2 (if_yes (and_yes t1 t2) (unp_ok rfl (put_ok (x := dictD F) (m0 := .own) rfl (tup_ok (ar_cons (fn2_ok (var_fz rfl) (var_fz rfl) rfl rfl hmin) (ar_cons (fn2_ok (var_fz rfl) (var_fz rfl) rfl rfl hmax) ar_nil)) rfl) rfl (put_tie (min a b, max a b) (by omega)))))))⟩
      have := addT_len F (min a b, max a b)
      omega
    · rw [decide_eq_false hl] at t2
      exact ⟨(p.next n).next n, F, some (.int (a : Nat)), some (.int (b : Nat)), hT, hF, body_ok hset (seq_nx e1 (seq_nx e2 (skip (and_yes t1 t2) _)))⟩
theorem sortT_run (F : List (Nat × Nat)) (h : F.length ≤ 1000) : fSorted [.list (F.map tieD)] = some (.tmp (.list ((sortT F).map tieD))) := by
  cases hF : F with
  | nil => simp [fSorted, sortDs, intsOf, sortI, sortT]
  | cons t ts =>
    rw [← hF]
    have hi : intsOf (F.map tieD) = none := by rw [hF]; rfl
    have ho : sortOk (F.map tieD) = true := by
      simp only [sortOk, Bool.and_eq_true, Bool.or_eq_true, decide_eq_true_eq, List.all_map, List.length_map]
      refine ⟨⟨⟨?_, .inl ?_⟩, ?_⟩, by omega⟩
      · simp [PySem.W.alike, PySem.W.alikeAll, tieD]
      · simp [tup1, tieD]
      · simp [PyData.canLay0, PyData.canLayAll0, PyData.depth, PyData.depthAll, tieD]
    have : (F.map tieD).mergeSort dLe = (sortT F).map tieD := (PySem.W.sort_maps (s := dLe) tieD fun a _ b _ => rfl).symm
    simp only [fSorted, sortDs, hi, ho, if_true, Option.map_some, this]
theorem web_by_run (p : Pen) (most : Nat) (h1 : 1 ≤ most) (h40 : most ≤ 40) : ∃ (n : Nat) (ts : List (Nat × Nat)) (p' : Pen), n ≤ most ∧ GoodWeb n ts ∧
    MM__law_web_by [(p.d, .lent), (.int (most : Nat), .fz)] = .ok (webD n ts) false [some (p'.d, .lent), some (.int (most : Nat), .fz)] := by
  obtain ⟨a, ha, ea⟩ := dr_nat p (m := most) (by omega)
  generalize hs1 : (some (PyData.int (most : Nat), Md.fz) : Slot) = s1
  have d1 := dr_ok (i := 0) (p := p) (md := .lent) (m := (most : Nat)) (ρ := [some (p.d, .lent), s1, none, none, none, none, none, none]) (c := cVar 1) rfl (.inr rfl) (by rw [← hs1]; exact var_fz rfl) (by omega) (by omega)
  rw [ea] at d1
  have e1 : cSet 2 (cBin opAdd (cLit (.int 1)) (cCall MMDraw (cCons (cVar 0) (cCons (cVar 1) cNil)))) [some (p.d, .lent), s1, none, none, none, none, none, none] = .nx [some ((p.next most).d, .lent), s1, some (.int ((1 + a : Nat) : Int), .fz), none, none, none, none, none] :=
    set_to (bin_ok rfl d1 rfl rfl (r := .val (.int ((1 + a : Nat) : Int))) (by rw [opAdd_i, Int.natCast_add]; rfl)) rfl rfl
  generalize hp1 : p.next most = p1 at e1
  generalize hn : 1 + a = n at e1
  have n1 : 1 ≤ n := by omega
  have nm : n ≤ most := by omega
  have e2 : cSet 3 cNewT [some (p1.d, .lent), s1, some (.int (n : Nat), .fz), none, none, none, none, none] = .nx [some (p1.d, .lent), s1, some (.int (n : Nat), .fz), some (dictD [], .own), none, none, none, none] := rfl
  have d3 := dr_ok (i := 0) (p := p1) (md := .lent) (m := 3) (ρ := [some (p1.d, .lent), s1, some (.int (n : Nat), .fz), some (dictD [], .own), none, none, none, none]) (c := cLit (.int 3)) rfl (.inr rfl) rfl (by decide) (by decide)
  obtain ⟨p2, F, j5, hT, hF, e3⟩ : ∃ (p2 : Pen) (F : List (Nat × Nat)) (j5 : Option D), Ties n F ∧ F.length ≤ 40 ∧ cIf (cTst (cBin opGt (cCall MMDraw (cCons (cVar 0) (cCons (cLit (.int 3)) cNil))) (cLit (.int 0))))
      (cFor (cRng2 (cLit (.int 1)) (cVar 2)) (gNm 5) bb__law_web_by_1) cSkip [some (p1.d, .lent), s1, some (.int (n : Nat), .fz), some (dictD [], .own), none, none, none, none] = .nx [some (p2.d, .lent), s1, some (.int (n : Nat), .fz), some (dictD F, .own), none, jk j5, none, none] := by
    by_cases h3 : 0 < p1.draw 3
    · obtain ⟨ρ', e, p2, F, j5, hT, hF, rfl⟩ := forL_pre (g := gNm 5) (b := bb__law_web_by_1) (f := fun (k : Nat) => .int ((1 + k : Nat) : Int)) (I := fun pre ρ => ∃ (p2 : Pen) (F : List (Nat × Nat)) (j5 : Option D), Ties n F ∧ F.length ≤ pre.length ∧ ρ = [some (p2.d, .lent), s1, some (.int (n : Nat), .fz), some (dictD F, .own), none, jk j5, none, none]) (List.range (n - 1)) (fun pre k post ρ e hI => by
        obtain ⟨q, F, j5, hT, hF, rfl⟩ := hI
        have hk : k < n - 1 := by
          have : k ∈ List.range (n - 1) := by rw [e]; simp
          simpa using this
        have hpre : pre.length < n := by
          have := congrArg List.length e
          simp at this
          omega
        obtain ⟨q', F', hT', hF', hb⟩ := wb1 q s1 none none n (1 + k) (by omega) (by omega) (by omega) F (by omega) hT none j5
        exact ⟨_, hb, q', F', _, hT', by simp; omega, rfl⟩) [some ((p1.next 3).d, .lent), s1, some (.int (n : Nat), .fz), some (dictD [], .own), none, none, none, none] ⟨p1.next 3, [], none, ⟨by simp, List.nodup_nil⟩, by simp, rfl⟩
      refine ⟨p2, F, j5, hT, by simp at hF; omega, if_yes (gt_ok d3 (decide_eq_true h3)) (for_nx (rng2 (m := 1) (n := n) rfl (var_fz rfl) (by decide) (by omega)) e)⟩
    · exact ⟨p1.next 3, [], none, ⟨by simp, List.nodup_nil⟩, by simp, if_no (gt_ok d3 (decide_eq_false h3)) rfl⟩
  obtain ⟨b, hb, eb⟩ := dr_nat p2 (m := 4) (by decide)
  have d4 := dr_ok (i := 0) (p := p2) (md := .lent) (m := 4) (ρ := [some (p2.d, .lent), s1, some (.int (n : Nat), .fz), some (dictD F, .own), none, jk j5, none, none]) (c := cLit (.int 4)) rfl (.inr rfl) rfl (by decide) (by decide)
  rw [show p2.draw 4 = (b : Int) from eb] at d4
  have hmul : opMul (.int 2) (.int (n : Nat)) = some (.val (.int ((2 * n : Nat) : Int))) := by
    rw [opMul_ii (by omega), Int.natCast_mul]; rfl
  have hl : cLst (cCons (cLit (.int 0)) (cCons (cLit (.int 3)) (cCons (cVar 2) (cCons (cBin opMul (cLit (.int 2)) (cVar 2)) cNil)))) [some (p2.d, .lent), s1, some (.int (n : Nat), .fz), some (dictD F, .own), none, jk j5, none, none] =
      .ok (.tmp (.list [.int 0, .int 3, .int (n : Nat), .int ((2 * n : Nat) : Int)])) [some (p2.d, .lent), s1, some (.int (n : Nat), .fz), some (dictD F, .own), none, jk j5, none, none] :=
    lst_ok (ar_cons rfl (ar_cons rfl (ar_cons (var_fz rfl) (ar_cons (bin_ok rfl (var_fz rfl) rfl rfl hmul) ar_nil)))) rfl
  obtain ⟨c, hc, ec⟩ : ∃ c : Nat, c ≤ 80 ∧ opIx (.list [.int 0, .int 3, .int (n : Nat), .int ((2 * n : Nat) : Int)]) (.int (b : Nat)) = some (.val (.int (c : Nat))) := by
    have : b = 0 ∨ b = 1 ∨ b = 2 ∨ b = 3 := by omega
    rcases this with rfl | rfl | rfl | rfl
    · exact ⟨0, by omega, rfl⟩
    · exact ⟨3, by omega, rfl⟩
    · exact ⟨n, by omega, rfl⟩
    · exact ⟨2 * n, by omega, rfl⟩
  obtain ⟨ρ', e, p3, F3, j4, j6, j7, hT3, hF3, rfl⟩ := forL_pre (g := gNm 4) (b := bb__law_web_by_2) (f := fun (k : Nat) => .int (k : Nat)) (I := fun pre ρ => ∃ (p2 : Pen) (F : List (Nat × Nat)) (j4 j6 j7 : Option D), Ties n F ∧ F.length ≤ 60 ∧ ρ = [some (p2.d, .lent), s1, some (.int (n : Nat), .fz), some (dictD F, .own), jk j4, jk j5, jk j6, jk j7]) (List.range c) (fun pre k post ρ e hI => by
    obtain ⟨q, F, j4, j6, j7, hT, hF, rfl⟩ := hI
    obtain ⟨q', F', j6', j7', hT', hF', hb⟩ := wb2 q s1 n n1 (by omega) F hF hT j4 j5 j6 j7 (.int (k : Nat))
    exact ⟨_, hb, q', F', _, j6', j7', hT', hF', rfl⟩) [some ((p2.next 4).d, .lent), s1, some (.int (n : Nat), .fz), some (dictD F, .own), none, jk j5, none, none] ⟨p2.next 4, F, none, none, none, hT, by omega, rfl⟩
  have hperm := sortT_perm F3
  refine ⟨n, sortT F3, p3, nm, ⟨n1, by omega, by rw [hperm.length_eq]; exact hF3, fun t ht => hT3.lt t (hperm.mem_iff.mp ht), hperm.nodup_iff.mpr hT3.nd, F3, rfl⟩, mkF_rvo rfl ?_⟩
  show (cc__law_web_by ([some (p.d, .lent), some (PyData.int (most : Nat), Md.fz)] ++ [none, none, none, none, none, none])).rvo 2 = _
  rw [hs1]
  refine seq_rvo e1 (seq_rvo e2 (seq_rvo e3 (seq_rvo (for_nx (rng1 (n := c) (bin_ok hl d4 rfl rfl ec) (by omega)) e) ?_)))
  have hf : cFn fTuple (cCons (cFn fSorted (cCons (cFn fListA (cCons (cVar 3) cNil)) cNil)) cNil) [some (p3.d, .lent), s1, some (.int (n : Nat), .fz), some (dictD F3, .own), jk j4, jk j5, jk j6, jk j7] = .ok (.val (.tuple ((sortT F3).map tieD))) [some (p3.d, .lent), s1, some (.int (n : Nat), .fz), some (dictD F3, .own), jk j4, jk j5, jk j6, jk j7] :=
    tupc_ok (fn1_ok (fn1_ok (var_own rfl) rfl (keys_dict F3)) rfl (sortT_run F3 (by omega)))
  have ht := tup_ok (ar_cons (var_fz (i := 2) (ρ := [some (p3.d, .lent), s1, some (.int (n : Nat), .fz), some (dictD F3, .own), jk j4, jk j5, jk j6, jk j7]) rfl) (ar_cons hf ar_nil)) rfl
  rw [← hs1] at ht ⊢
  exact ret_rvo ht
end TN
namespace TN
open PySem PySem.Spec PyProof.Rows L2

/-! ### sums at places -/
def addAt (xs : List Int) (k : Nat) (v : Int) : List Int := xs.set k (xs.getD k 0 + v)
theorem addAt_len (xs : List Int) (k : Nat) (v : Int) : (addAt xs k v).length = xs.length := by simp [addAt]
theorem put_i {xs : List Int} {k : Nat} (h : k < xs.length) (v : Int) : putA (.list (xs.map .int)) (.int (k : Nat)) (.int v) = some (.list ((xs.set k v).map .int)) := by
  have hx : ixN (xs.map PyData.int).length (k : Int) = some k := by
    unfold ixN
    simp [h]
  rw [putA_i, hx, List.map_set]
def sumStep (acc : List Int) (p : (Nat × Nat) × Int) : List Int := addAt (addAt acc p.1.1 p.2) p.1.2 p.2
theorem sumStep_len (acc : List Int) (p : (Nat × Nat) × Int) : (sumStep acc p).length = acc.length := by simp [sumStep, addAt_len]
theorem sumFold_len : ∀ (ps : List ((Nat × Nat) × Int)) (acc : List Int), (ps.foldl sumStep acc).length = acc.length
  | [], _ => rfl
  | p :: ps, acc => by rw [List.foldl_cons, sumFold_len ps, sumStep_len]
def sumsL (n : Nat) (ts : List (Nat × Nat)) (ns : List Int) : List Int := (ts.zip ns).foldl sumStep (List.replicate n 0)
theorem sumsL_len (n : Nat) (ts : List (Nat × Nat)) (ns : List Int) : (sumsL n ts ns).length = n := by
  unfold sumsL
  rw [sumFold_len]
  simp
theorem rep0 {n : Nat} (h : n ≤ 1000) : opMul (.list [.int 0]) (.int (n : Nat)) = some (.tmp (.list ((List.replicate n (0 : Int)).map .int))) := by
  have e : (List.replicate ((n : Int).toNat) [PyData.int 0]).flatten = (List.replicate n (0 : Int)).map .int := by
    rw [Int.toNat_natCast, List.map_replicate]
    clear h
    induction n with
    | zero => rfl
    | succ n ih => rw [List.replicate_succ, List.flatten_cons, ih, List.replicate_succ]; rfl
  show (if [PyData.int 0].length * (n : Int).toNat ≤ 16777216 ∧ -1000000 ≤ (n : Int) ∧ (n : Int) ≤ 100000000 then _ else _) = _
  rw [if_pos ⟨by simp; omega, by omega, by omega⟩, e]
theorem zipD_ts : ∀ (ts : List (Nat × Nat)) (ns : List Int), zipD (ts.map tieD) (ns.map .int) = (ts.zip ns).map fun p => .tuple [tieD p.1, .int p.2]
  | [], _ => by simp [zipD]
  | _ :: _, [] => by simp [zipD]
  | t :: ts, n :: ns => by
    have := zipD_ts ts ns
    unfold zipD at this ⊢
    simp only [List.map_cons, List.zipWith_cons_cons, List.zip_cons_cons, this]
theorem fSorted_t (ns : List Int) (h : ns.length ≤ 16777216) : fSorted [.tuple (ns.map .int)] = some (.tmp (.list ((sortI ns).map .int))) := by
  simp only [fSorted, sortDs, intsOf_map, h, if_true, Option.map_some]
/-! all unlike -/
theorem dd_le : ∀ (xs acc : List Int), (xs.foldl step_dedup acc).length ≤ acc.length + xs.length
  | [], acc => by simp
  | x :: xs, acc => by
    have h := dd_le xs (step_dedup acc x)
    have h2 : (step_dedup acc x).length ≤ acc.length + 1 := by unfold step_dedup; split <;> simp
    simp only [List.foldl_cons, List.length_cons]
    omega
theorem dd_all : ∀ (xs acc : List Int), (xs.foldl step_dedup acc).length = acc.length + xs.length ↔ xs.Nodup ∧ ∀ x ∈ xs, x ∉ acc
  | [], acc => by simp
  | x :: xs, acc => by
    have h := dd_all xs (step_dedup acc x)
    have hle := dd_le xs (step_dedup acc x)
    simp only [List.foldl_cons, List.length_cons, List.nodup_cons]
    by_cases hx : acc.any (· == x) = true
    · have hm : x ∈ acc := by
        obtain ⟨y, hy, e⟩ := List.any_eq_true.mp hx
        have : y = x := by simpa using e
        rwa [← this]
      have e : step_dedup acc x = acc := by unfold step_dedup; rw [if_pos hx]
      rw [e] at hle ⊢
      constructor
      · intro z; omega
      · intro z; exact absurd hm (z.2 x (List.mem_cons_self ..))
    · have hm : x ∉ acc := fun z => hx (List.any_eq_true.mpr ⟨x, z, by simp⟩)
      have hl : (step_dedup acc x).length = acc.length + 1 := by unfold step_dedup; rw [if_neg hx]; simp
      have hmem : ∀ y, y ∈ step_dedup acc x ↔ y ∈ acc ∨ y = x := by
        intro y
        unfold step_dedup
        rw [if_neg hx]
        simp [or_comm]
      rw [hl] at h
      rw [show acc.length + (xs.length + 1) = acc.length + 1 + xs.length from by omega, h]
      constructor
      · rintro ⟨h1, h2⟩
        refine ⟨⟨fun z => (h2 x z) ((hmem x).mpr (.inr rfl)), h1⟩, fun y hy => ?_⟩
        rcases List.mem_cons.mp hy with rfl | hy
        · exact hm
        · exact fun z => h2 y hy ((hmem y).mpr (.inl z))
      · rintro ⟨⟨h1, h2⟩, h3⟩
        refine ⟨h2, fun y hy z => ?_⟩
        rcases (hmem y).mp z with z | rfl
        · exact h3 y (List.mem_cons_of_mem _ hy) z
        · exact h1 hy
theorem dd_nd (xs : List Int) : (ddI xs).length = xs.length ↔ xs.Nodup := by
  have := dd_all xs []
  simpa [ddI] using this
theorem adj_nd : ∀ {s : List Int}, s.Pairwise (· ≤ ·) → (s.Nodup ↔ ∀ k, k + 1 < s.length → s.getD k 0 ≠ s.getD (k + 1) 0)
  | [], _ => by simp
  | [a], _ => by simp
  | a :: b :: s, h => by
    have h1 := List.pairwise_cons.mp h
    have ih := adj_nd h1.2
    rw [List.nodup_cons, ih]
    constructor
    · rintro ⟨n1, n2⟩ k hk
      cases k with
      | zero => exact fun e => n1 (by simp at e; rw [e]; exact List.mem_cons_self ..)
      | succ k => exact n2 k (by simpa using hk)
    · intro hall
      have h0 := hall 0 (by simp)
      refine ⟨fun hm => ?_, fun k hk => hall (k + 1) (by simpa using hk)⟩
      rcases List.mem_cons.mp hm with e | hm
      · exact h0 (by simpa using e)
      · have e1 := h1.1 b (List.mem_cons_self ..)
        have e2 := (List.pairwise_cons.mp h1.2).1 a hm
        exact h0 (by simp; omega)
theorem unlike_iff (xs : List Int) : decide ((ddI xs).length = xs.length) = (List.range (xs.length - 1)).all fun k => !decide ((sortI xs).getD k 0 = (sortI xs).getD (k + 1) 0) := by
  rw [Bool.eq_iff_iff, decide_eq_true_iff, dd_nd, ← (sortI_perm xs).nodup_iff, adj_nd (sortI_pw xs), (sortI_perm xs).length_eq]
  simp only [List.all_eq_true, List.mem_range, Bool.not_eq_true', decide_eq_false_iff_not]
  constructor
  · intro h k hk; exact h k (by omega)
  · intro h k hk; exact h k (by omega)
end TN
namespace TN
open PySem PySem.Spec PyProof.Rows L2

/-! ### a drawn order -/
theorem rgI_len1 (n : Nat) : (rgI 1 ((n : Int) + 1)).length = n := by
  unfold rgI
  rw [List.length_map, List.length_range]
  omega
/-! the last of a list, put -/
end TN
namespace TN
open PySem PySem.Spec PyProof.Rows L2

/-! ### squares by drawn turns -/
structure Sq (N : List (List Int)) : Prop where
  pos : 1 ≤ N.length
  le : N.length ≤ 7
  row : ∀ r ∈ N, r.length = N.length
def rot (one other : Nat) (N : List (List Int)) : List (List Int) := (N.drop one ++ N.take one).map fun r => r.drop other ++ r.take other
def mk (n : Nat) : List (List Int) := (List.range n).map fun (row : Nat) => (List.range n).map fun (k : Nat) => (n : Int) * (((row : Int) + 2 * (k : Int)) % n) + ((row : Int) + 3 * (k : Int)) % n + 1
/-- as lsg, to be counted out -/
def lsq (N : List (List Int)) : Bool := N.flatten.isPerm (rgI 1 ((N.flatten.length : Int) + 1)) && (List.range N.length).all fun k => decide ((N.getD k []).sum = (N.getD 0 []).sum) && decide ((N.map fun r => r.getD k 0).sum = (N.getD 0 []).sum)
def Small (N : List (List Int)) : Prop := ∀ r ∈ N, ∀ x ∈ r, 0 ≤ x ∧ x < 1000
structure Fine (N : List (List Int)) : Prop where
  sq : Sq N
  sm : Small N
  all : ∀ one other : Nat, one < N.length → other < N.length → lsq (rot one other N) = true
end TN
namespace TN
open PySem PySem.Spec PyProof.Rows L2
/-! ### comprehensions that draw; held ones -/
/-! cuts of lists -/
/-- the cells that a law goes through -/
theorem cells_it {ρ : Rho} {ns : List Int} (k : Nat) (h0 : ρ[0]? = some (some (.list (ns.map .int), .fz))) (hn : ns.length ≤ 63) :
    cIt (cBin opAdd (cLst (cCons (cCall MMCell (cCons (cVar 0) (cCons (cLit (.int 0)) cNil))) cNil)) (cSl (cVar 0) (cPart (cLit (.int 1))) (cPart (cLit (.int (k : Nat)))))) ρ = .ok ((cellAt ns 0 :: (ns.take k).drop 1).map .int) ρ := by
  have c1 := cut_mid (ns.map PyData.int) 1 k
  have hsl : cSl (cVar 0) (cPart (cLit (.int 1))) (cPart (cLit (.int (k : Nat)))) ρ = .ok (.tmp (.list (((ns.take k).drop 1).map .int))) ρ := by
    unfold cSl cPart cLit
    simp only [var_fz h0, TN.R.bind, look, opSl_l, TN.R.ofOpt]
    rw [show ((1 : Int)) = ((1 : Nat) : Int) from rfl, c1, List.map_drop, List.map_take]
  refine it_tmp (bin_ok (lst_ok (ar_cons (call2_ok (var_fz h0) rfl (cell_call ns 0)) ar_nil) rfl) hsl rfl rfl (opAdd_ll ?_)) rfl
  simp; omega
end TN
namespace TN
open PySem PySem.Spec PyProof.Rows L2

/-! ### raise X() -/
theorem pmk_own0 {X : Cx} {C : Addr} {bmB : List Value} {B newId initId : String} {x : Str} {p pos : Pos} (F : ExcBaseFacts B newId initId bmB) (q : PySem.W.excIn X.K C bmB newId = true) (gC : X.mg x = some (.ref C)) (kC : PySem.W.keepIn X.K (.ref C) = true) (r : Raises X (.ref C)) (hg : Gl X x)
    (hdb : (x == ("__debug__" : Str)) = false := by decide) : PMk X (.Call (.Name x p) [] [] pos) (fun _ H Q => Q (.ref C) none H) := by
  intro pins s σ H Q I h
  refine wpAny_Call_Name_kw (ld_glob I hg gC ?_ hdb)
  refine PySem.W.callWith_K0 I.kIn kC ?_
  show wpAny _ _ (call (.ref C) []) _ _ _
  obtain ⟨bm, N, nm, qn, bs, hdct, sn, sub, ab, col, dd, k0, k1, k2, k3, k5, mN, hC, hN, hni, T⟩ := exc_obj I.kIn q
  refine wpAny_call_exc_subT F T hC hN hni (fun h' e hm => ?_) (by show 0 ≤ sizeLine; exact Nat.zero_le _)
  exact mk_of I hm r h (I.hok.gone hm.new)
theorem ss_raise0 {X : Cx} {x : Str} {p pos pos' : Pos} (hc : X.calm = true) (hg : Gl X x) (hm : X.mg x = some (.ref (He.ga X.K x))) (c : (He.Fa.exc x).ok X.K = true) (hdb : (x == ("__debug__" : Str)) = false := by decide) :
    SS X (.Raise (some (.Call (.Name x p) [] [] pos)) none pos') (cRaise x) := fun W tk _ => by
  obtain ⟨c1, c2, c3, c4⟩ := He.exc_ok c
  refine PSimp (ps_raise hc tk (pmk_own0 PySem.F.excBase_ValueError c1 hm c2 (raises_own c3 c4) hg hdb)) ?_
  rintro Dn σ H ⟨L, ρ, G, B, rel, h⟩
  exact h _ none σ H G rel .refl ⟨_, hm, rfl, .inl ⟨rfl, rfl⟩⟩

/-! ### a caught exception is tracked -/
/-! ### try: body, except x as n: suite; n holds the exception, frozen -/
section
variable {X : Cx} {x n : Str} {c : Value} {i : Nat} {body suite : List Stmt} {b₀ : Stmt} {np pos pos' : Pos} {tb : WX → TS} {ts : TS} {Wout : WX}
end

/-! ### what is known of the classes -/
structure ExX (K : PySem.W.Frag) (mg : Str → Option Value) (cs : List Str) (x : Str) : Prop where
  glo : mg x = some (.ref (He.ga K x))
  c1 : exC K (He.ga K x) = true
  c2 : exT K (He.ga K x) = true
  tie : PySem.W.exmOne K (.ref (He.ga K x)) (.ref (He.ga K ("TieError" : Str))) = some true
  val : PySem.W.kitOne K (.ref (He.ga K x)) (.type "ValueError") = some true
  one : ∀ y ∈ cs, PySem.W.kitOne K (.ref (He.ga K x)) (.ref (He.ga K y)) = some (x == y)
structure ExS (K : PySem.W.Frag) (mg : Str → Option Value) (cs : List Str) : Prop where
  tie : mg ("TieError" : Str) = some (.ref (He.ga K ("TieError" : Str)))
  all : ∀ x ∈ cs, ExX K mg cs x
theorem exS_of {K : PySem.W.Frag} {h : Heap} {mg : Str → Option Value} {cs : List Str} (X : K.In h) (G : h.Ns mainGlobals mg) (c : exAll cs K = true) : ExS K mg cs := by
  unfold exAll at c
  obtain ⟨c1, c2⟩ := He.ba c
  refine ⟨PySem.W.mg_of X G (He.eqO_ok c1), fun x hx => ?_⟩
  have q := List.all_eq_true.mp c2 x hx
  unfold exB at q
  obtain ⟨q1, q⟩ := He.ba q
  obtain ⟨q2, q⟩ := He.ba q
  obtain ⟨q3, q⟩ := He.ba q
  obtain ⟨q4, q⟩ := He.ba q
  obtain ⟨q5, q6⟩ := He.ba q
  exact ⟨PySem.W.mg_of X G (He.eqO_ok q1), q2, q3, of_decide_eq_true q4, of_decide_eq_true q5, fun y hy => of_decide_eq_true (List.all_eq_true.mp q6 y hy)⟩

/-! ### the catch -/
theorem Rel.gone {K : PySem.W.Frag} {L : L2.St} {B G H : Hp} {σ : L2.St} {ρ : Rho} {i : Nat} (r : Rel K L B σ ρ G H) (hi : canSet ρ i = true) : Rel K L B (σ.set i none) (ρ.set i none) G H := by
  have hlt := canSet_lt hi
  have out : ∀ {j : Nat} {q : D × Md}, (ρ.set i none)[j]? = some (some q) → j ≠ i ∧ ρ[j]? = some (some q) := fun {j q} h => by
    by_cases hj : j = i
    · subst hj; rw [List.getElem?_set_self hlt] at h; cases h
    · rw [List.getElem?_set_ne (Ne.symm hj)] at h; exact ⟨hj, h⟩
  refine ⟨r.sub, r.base, by simpa using r.len, fun j q hq => ?_, fun j k q q' w hjk hq hq' hf hf' hw => ?_, fun j w hw => ?_⟩
  · obtain ⟨h1, h2⟩ := out hq
    obtain ⟨v, h3, h4⟩ := r.slots j q h2
    exact ⟨v, by rw [List.getElem?_set_ne (Ne.symm h1)]; exact h3, h4⟩
  · obtain ⟨h1, h2⟩ := out hq
    obtain ⟨h3, h4⟩ := out hq'
    rw [List.getElem?_set_ne (Ne.symm h1)] at hw
    rw [List.getElem?_set_ne (Ne.symm h3)]
    exact r.sep j k q q' w hjk h2 h4 hf hf' hw
  · obtain ⟨h1, d1, m1, h2, h3⟩ := r.lent j w hw
    have hj : j ≠ i := fun z => by
      subst z
      obtain ⟨n1, n2⟩ := canSet_lent hi h2
      rcases h3 with z | z
      · exact n1 z
      · exact n2 z
    exact ⟨by rw [List.getElem?_set_ne (Ne.symm hj)]; exact h1, d1, m1, by rw [List.getElem?_set_ne (Ne.symm hj)]; exact h2, h3⟩
def cTry (cs : List Str) (i : Nat) (cb ch : CS) : CS := fun ρ => match cb ρ with
  | .exc x ρ1 => if cs.contains x.cls = true ∧ canSet ρ1 i = true then (match ch (ρ1.set i (some (exD x.cls x.flds, .fz))) with
    | .nx ρ2 => if canSet ρ2 i = true then .nx (ρ2.set i none) else .bad
    | .ret d fr ρ2 => .ret d fr ρ2
    | _ => .bad) else .bad
  | r => r
end TN
namespace TN
open PySem PySem.Spec PyProof.Rows L2 L2H

/-! ### defs that are called while an exception is handled -/
theorem FnHot.mono {P : Program} {w : World} {K : PySem.W.Frag} {mg : Str → Option Value} {base : Heap} {CX : CXT} {j k : Nat} {f : Addr} {fd : FuncData} {ps : List Str} {sp : Sp} (F : FnHot P w K mg base CX j f fd ps sp) (h : j ≤ k) : FnHot P w K mg base CX k f fd ps sp :=
  ⟨F.len, fun A outer s H args us vs Q E hr => F.run A outer s H args us vs Q E (hr.mono h)⟩
section
variable {X : Cx} {k n : Nat} {f : Addr} {fd : FuncData} {pn : List Str} {M : FM} {x : Str} {p pos : Pos} {e : Expr} {es : List Expr} {cr : CA}
end
/-- a def by its meaning, called anywhere -/
structure CalleeH (P : Program) (w : World) (K : PySem.W.Frag) (mg : Str → Option Value) (base : Heap) (k : Nat) (x : Str) (n : Nat) (M : FM) : Prop where
  ex : ∃ (f : Addr) (fd : FuncData) (pn : List Str), FnHot P w K mg base (L2.CX P w) k f fd pn (spF K mg n M) ∧ mg x = some (.ref f) ∧ PySem.W.keepIn K (.ref f) = true ∧ Binds K fd pn []
theorem CalleeH.up {P : Program} {w : World} {K : PySem.W.Frag} {mg : Str → Option Value} {base : Heap} {k : Nat} {x : Str} {n : Nat} {M : FM} (c : CalleeH P w K mg base k x n M) {j : Nat} (h : k ≤ j) : CalleeH P w K mg base j x n M := by
  obtain ⟨f, fd, pn, h1, h2, h3, h4⟩ := c.ex
  exact ⟨f, fd, pn, h1.mono h, h2, h3, h4⟩
/-! ### isinstance(e, C), e a caught exception -/
section
variable {X : Cx} {cs : List Str} {x : Expr} {c : CE} {C : Str} {p p2 pos : Pos}
end
end TN
namespace TN
open PySem PySem.Spec PyProof.Rows L2

/-! ### the head, with what is known of the exceptions' classes -/
end TN
namespace TN
open PySem PySem.Spec PyProof.Rows L2
/-! exceptions, plainly -/
theorem shaped_str {a : Str} (h : PyData.strOk a = true := by decide +kernel) : SeqAt.shaped (.str a) = true := by simp [SeqAt.shaped, PyData.canLay0, PyData.depth, h]
theorem opEq_str (a b : Str) (ha : PyData.strOk a = true := by decide +kernel) (hb : PyData.strOk b = true := by decide +kernel) : opEq (.str a) (.str b) = some (.val (.bool (a == b))) := by
  unfold opEq
  rw [if_pos ⟨shaped_str ha, shaped_str hb⟩]
  simp [PyData.eqv]
/-! what is no place -/
end TN
namespace TN
open PySem PySem.Spec PyProof.Rows L2
end TN
namespace TN
open PySem PySem.Spec PyProof.Rows L2

/-! ### defs that hand out a tuple of values and of new lists -/
theorem UIs.mono {K : PySem.W.Frag} {G G' H H' B B' : Hp} (s : Same G G') (hG : ∀ a o, G a = none → H a = some o → (∀ us, o ≠ .tup us) → B a = none → G' a = none ∧ B' a = none ∧ H' a = some o) : ∀ {vs : List V} {is : UI}, UIs K G H B vs is → UIs K G' H' B' vs is
  | _, _, .nil => .nil
  | _, _, .cons h1 h2 h3 r => .cons (fun e => (h1 e).mono s) (fun e => by
      obtain ⟨a, e1, g1, b1, c1⟩ := h2 e
      obtain ⟨o, ho⟩ := c1.there
      obtain ⟨x1, x2, x3⟩ := hG a o g1 ho (fun us z => by subst z; exact c1.notTup ho) b1
      exact ⟨a, e1, x1, x2, (c1.heap fun o' e' => by rw [ho] at e'; cases e'; exact x3).mono s⟩) h3 (r.mono s hG)
abbrev FMU := List (D × Md) → R UI
def URes (K : PySem.W.Frag) (mg : Str → Option Value) (B G : Hp) (vs : List V) (as : List (D × Md)) (Q : VK) (E : XK) (r : R UI) : Prop := match r with
  | .ok is outs => ∀ (t : Addr) (us : List V) (H' G' : Hp), After K B G vs as outs G' H' → H' t = some (.tup us) → UIs K G' H' B us is →
      (∀ (i : Nat) (d1 : D) (w : V) (d2 : D) (j : Nat) (d' : D), as[i]? = some (d1, .lent) → vs[i]? = some w → outs[i]? = some (some (d2, .lent)) → us[j]? = some w → is[j]? = some (d', true) → False) → Q (.ref t) H'
  | .exc x outs => ∀ (cls : Value) (d : Option Addr) (H' G' : Hp), After K B G vs as outs G' H' →
      (∃ C : Addr, mg x.cls = some (.ref C) ∧ cls = .ref C ∧ ((x.flds = [] ∧ d = none) ∨ ∃ (dd : Addr) (fs : List (Str × V)), d = some dd ∧ H' dd = some (.xd fs) ∧ B dd = none ∧ FzN K G' fs x.flds)) → E cls d H'
  | .bad => False
def spU (K : PySem.W.Frag) (mg : Str → Option Value) (n : Nat) (M : FMU) : Sp := fun vs H Q E => ∃ (G B : Hp) (as : List (D × Md)), vs.length = n ∧ Same G H ∧ Same B H ∧ ArgsOk K G H B vs as ∧ URes K mg B G vs as Q E (M as)

/-! ### the displayed tuple: new lists stay new -/
theorem PlAo.fresh {K : PySem.W.Frag} {B : Hp} {σ : L2.St} {ρ : Rho} {G H : Hp} : ∀ {vs : List V} {ps : List Pl} {j : Nat} {w : V} {d : D}, PlAo K B σ ρ G H vs ps → vs[j]? = some w → ps[j]? = some (.tmp d) → PlOk K B σ ρ G H w (.tmp d)
  | _, _, _, _, _, .nil, h, _ => by simp at h
  | _, _, 0, _, _, .cons h1 _ _, h, h' => by simp at h h'; subst h h'; exact h1
  | _, _, j + 1, _, _, .cons _ _ r, h, h' => r.fresh (j := j) (by simpa using h) (by simpa using h')
section
variable {X : Cx} {e : Expr} {es : List Expr} {c : CE} {r : CA}
end

/-! ### the items -/
def itemsOf : List Pl → Rho → Option (UI × Rho)
  | [], ρ => some ([], ρ)
  | .val d :: ps, ρ => match itemsOf ps ρ with
    | some (is, ρ') => some ((d, false) :: is, ρ')
    | none => none
  | .tmp d :: ps, ρ => match itemsOf ps ρ with
    | some (is, ρ') => some ((d, true) :: is, ρ')
    | none => none
  | .slot i :: ps, ρ => match ρ[i]? with
    | some (some (d, .own)) => match itemsOf ps (ρ.set i none) with
      | some (is, ρ') => some ((d, true) :: is, ρ')
      | none => none
    | _ => none
structure ItemsOk (K : PySem.W.Frag) (L : L2.St) (B : Hp) (σ : L2.St) (ρ ρ2 : Rho) (G H : Hp) (vs : List V) (ps : List Pl) (is : UI) : Prop where
  rel : Rel K L B σ ρ2 G H
  its : UIs K G H B vs is
  sub : ∀ (j : Nat) (p : D × Md), ρ2[j]? = some (some p) → ρ[j]? = some (some p)
  sep : ∀ (j : Nat) (p : D × Md) (i : Nat) (w : V) (d : D), ρ2[j]? = some (some p) → p.2.isFz = false → vs[i]? = some w → is[i]? = some (d, true) → σ[j]? ≠ some (some w)
  src : ∀ (i : Nat) (w : V) (d : D), vs[i]? = some w → is[i]? = some (d, true) → (∃ (k : Nat) (d' : D), vs[k]? = some w ∧ ps[k]? = some (.tmp d')) ∨ ∃ (j : Nat) (d' : D), ρ[j]? = some (some (d', .own)) ∧ σ[j]? = some (some w)
/-! ### a body that ends with return (a, b, ..) -/
def uEval (c : CS) (ca : CA) (ρ : Rho) : R UI := match c ρ with
  | .nx ρ1 => match ca ρ1 with
    | .ok ps ρ2 => if ps.length ≤ 16777216 then (match itemsOf ps ρ2 with
      | some (is, ρ3) => .ok is ρ3
      | none => .bad) else .bad
    | .exc x ρ2 => .exc x ρ2
    | .bad => .bad
  | .exc x ρ1 => .exc x ρ1
  | _ => .bad
section
variable {X : Cx} {es : List Expr} {c : CS} {ca : CA} {pos pos' : Pos}
end
def mkFU (n m : Nat) (c : CS) (ca : CA) : FMU := fun as => if as.length = n then (match uEval c ca (as.map some ++ List.replicate (m - n) none) with
  | .ok is ρ => .ok is (ρ.take n)
  | .exc x ρ => .exc x (ρ.take n)
  | .bad => .bad) else .bad
section
variable {P : Program} {w : World} {K : PySem.W.Frag} {mg : Str → Option Value} {base : Heap} {x qual : Str} {params : Arguments} {body : List Stmt} {scope : Scope} {f : Addr} {fd : FuncData}
end
structure CalleeU (P : Program) (w : World) (K : PySem.W.Frag) (mg : Str → Option Value) (base : Heap) (k : Nat) (x : Str) (n : Nat) (M : FMU) : Prop where
  ex : ∃ (f : Addr) (fd : FuncData) (pn : List Str), FnOk P w K mg base (L2.CX P w) k f fd pn (spU K mg n M) ∧ mg x = some (.ref f) ∧ PySem.W.keepIn K (.ref f) = true ∧ Binds K fd pn []
theorem CalleeU.up {P : Program} {w : World} {K : PySem.W.Frag} {mg : Str → Option Value} {base : Heap} {k : Nat} {x : Str} {n : Nat} {M : FMU} (c : CalleeU P w K mg base k x n M) {j : Nat} (h : k ≤ j) : CalleeU P w K mg base j x n M := by
  obtain ⟨f, fd, pn, h1, h2, h3, h4⟩ := c.ex
  exact ⟨f, fd, pn, h1.mono h, h2, h3, h4⟩
/-! ### a, b, .. = f(..) -/
end TN
namespace TN
open PySem PySem.Spec PyProof.Rows L2

/-! ### steps numberings, plainly -/
structure Gr (m : Nat) (T : List (Nat × Nat)) (N : List Int) : Prop where
  len : N.length = m
  pos : 1 ≤ m
  lt : ∀ t ∈ T, t.1 < m ∧ t.2 < m
  rng : ∀ x ∈ N, 0 ≤ x ∧ x ≤ (T.length : Int)
  nd : N.Nodup
  st : (steps N T).Perm (rgI 1 ((T.length : Int) + 1))
theorem steps_len (N : List Int) (T : List (Nat × Nat)) : (steps N T).length = T.length := by simp [steps]
theorem getD_map {N : List Int} {f : Int → Int} {i : Nat} (h : i < N.length) : (N.map f).getD i 0 = f (N.getD i 0) := by
  simp [List.getD_eq_getElem?_getD, h]
/-! ### the spine -/
structure Sp (last : Int) (k : Nat) (T : List (Nat × Nat)) (N : List Int) (hub : Nat) (lo hi side : Int) : Prop where
  tl : T.length = k
  nl : N.length = k + 1
  hb : hub < k + 1
  l1 : 1 ≤ lo
  cnt : lo + last - hi = k + 1
  hl : hi ≤ last
  use : ∀ x ∈ N, (0 ≤ x ∧ x < lo) ∨ (hi < x ∧ x ≤ last)
  nd : N.Nodup
  hn : N.getD hub 0 = if side = 1 then lo - 1 else hi + 1
  sd : side = 0 ∨ side = 1
  lt : ∀ t ∈ T, t.1 < k + 1 ∧ t.2 < k + 1
  st : steps N T = (List.range k).map fun i => last - (i : Nat)
  z : N.getD 0 0 = 0
end TN
namespace TN
open PySem PySem.Spec PyProof.Rows L2
/-! webs made with their steps numberings -/
def bb__law_ring_1 : CS := (cSeq (cSet 3 (cBin opDiv (cVar 2) (cLit (.int 2))))
  (cSeq (cIf (cTst (cBin opEq (cBin opMod (cVar 2) (cLit (.int 2))) (cLit (.int 1))))
  (cSet 3 (cBin opSub (cVar 0) (cVar 3)))
  cSkip)
  (cSeq (cIf (cAnd (cTst (cBin opGe (cBin opMul (cLit (.int 2)) (cVar 2)) (cVar 0))) (cTst (cBin opEq (cBin opMod (cBin opAdd (cVar 2) (cVar 0)) (cLit (.int 2))) (cLit (.int 1)))))
  (cSet 3 (cBin opSub (cBin opAdd (cVar 3) (cLit (.int 1))) (cBin opMul (cLit (.int 2)) (cBin opMod (cVar 2) (cLit (.int 2))))))
  cSkip)
  (cDrop (cMutL 1 fAppend (cCons (cVar 3) cNil))))))
def ee__law_ring_2 : CE := (cTup (cCons (cVar 2) (cCons (cBin opAdd (cVar 2) (cLit (.int 1))) cNil)))
def cc__law_ring : CS := (cSeq (cSet 1 (cLst cNil))
  (cSeq (cFor (cRng1 (cVar 0)) (gNm 2)
  bb__law_ring_1)
  cSkip))
def aa__law_ring : CA := (cCons (cVar 0) (cCons (cBin opAdd (cComp (cRng1 (cBin opSub (cVar 0) (cLit (.int 1)))) (gNm 2) tTrue ee__law_ring_2 [2]) (cLst (cCons (cTup (cCons (cLit (.int 0)) (cCons (cBin opSub (cVar 0) (cLit (.int 1))) cNil))) cNil))) (cCons (cVar 1) cNil)))
def MM__law_ring : FMU := mkFU 1 4 cc__law_ring aa__law_ring
def ee__law_sides_1 : CE := (cTup (cCons (cVar 3) (cCons (cBin opAdd (cVar 0) (cVar 4)) cNil)))
def bb__law_sides_2 : CS := (cDrop (cMutL 2 fExtend (cCons (cComp (cRng1 (cVar 1)) (gNm 4) tTrue ee__law_sides_1 [4]) cNil)))
def ee__law_sides_3 : CE := (cBin opMul (cVar 0) (cBin opAdd (cVar 4) (cLit (.int 1))))
def cc__law_sides : CS := (cSeq (cSet 2 (cLst cNil))
  (cSeq (cFor (cRng1 (cVar 0)) (gNm 3)
  bb__law_sides_2)
  cSkip))
def aa__law_sides : CA := (cCons (cBin opAdd (cVar 0) (cVar 1)) (cCons (cVar 2) (cCons (cBin opAdd (cLstRg (cRg1 (cVar 0))) (cComp (cRng1 (cVar 1)) (gNm 4) tTrue ee__law_sides_3 [4])) cNil)))
def MM__law_sides : FMU := mkFU 2 5 cc__law_sides aa__law_sides
end TN
namespace TN
open PySem PySem.Spec PyProof.Rows L2
/-! rings and sides -/
structure Gr0 (m : Nat) (T : List (Nat × Nat)) (N : List Int) : Prop where
  gr : Gr m T N
  z : N.getD 0 0 = 0
  tl : T.length ≤ 30
  ml : m ≤ 31
def ringT (n : Nat) : List (Nat × Nat) := ((List.range (n - 1)).map fun k => (k, k + 1)) ++ [(0, n - 1)]
def ringN (n : Nat) : List Int := (List.range n).map fun (place : Nat) =>
  let one : Int := (place : Int) / 2
  let one : Int := if place % 2 = 1 then (n : Int) - one else one
  if n ≤ 2 * place ∧ (place + n) % 2 = 1 then one + 1 - 2 * ((place : Int) % 2) else one
structure Ring (n : Nat) : Prop where
  gr : Gr0 n (ringT n) (ringN n)
  run : MM__law_ring [(.int (n : Nat), .fz)] = .ok [(.int (n : Nat), false), (.list ((ringT n).map tieD), true), (.list ((ringN n).map .int), true)] [some (.int (n : Nat), .fz)]
def sideT (a b : Nat) : List (Nat × Nat) := (List.range a).flatMap fun i => (List.range b).map fun j => (i, a + j)
def sideN (a b : Nat) : List Int := ((List.range a).map fun (i : Nat) => (i : Int)) ++ (List.range b).map fun (j : Nat) => (a : Int) * ((j : Int) + 1)
structure Side (a b : Nat) : Prop where
  gr : Gr0 (a + b) (sideT a b) (sideN a b)
  run : MM__law_sides [(.int (a : Nat), .fz), (.int (b : Nat), .fz)] = .ok [(.int ((a + b : Nat) : Int), false), (.list ((sideT a b).map tieD), true), (.list ((sideN a b).map .int), true)] [some (.int (a : Nat), .fz), some (.int (b : Nat), .fz)]
end TN
namespace TN
open PySem PySem.Spec PyProof.Rows L2
/-! renamed -/
end TN
namespace TN
open PySem PySem.Spec PyProof.Rows L2
structure Gr1 (m : Nat) (T : List (Nat × Nat)) (N : List Int) (b : Nat) : Prop where
  gr : Gr m T N
  z : N.getD 0 0 = 0
  tl : T.length ≤ 30 + b
  ml : m ≤ 31 + b
end TN
namespace TN
open PySem PySem.Spec PyProof.Rows L2
end TN
namespace TN
open PySem PySem.Spec PyProof.Rows L2
/-! dicts of whole numbers as sets -/
/-! a steps numbering, by dicts -/
theorem perm_of : ∀ {r m : List Int}, r.Nodup → (∀ x ∈ r, x ∈ m) → r.length = m.length → r.Perm m
  | [], m, _, _, h => by
    have : m = [] := List.length_eq_zero_iff.mp h.symm
    subst this; exact .nil
  | x :: r, m, hn, hs, h => by
    rw [List.nodup_cons] at hn
    have h1 := hs x (List.mem_cons_self ..)
    have ih := perm_of (r := r) (m := m.erase x) hn.2 (fun y hy => (List.mem_erase_of_ne (fun z : y = x => hn.1 (by rw [← z]; exact hy))).mpr (hs y (List.mem_cons_of_mem _ hy))) (by rw [List.length_erase_of_mem h1]; simp at h; omega)
    exact (ih.cons x).trans (List.perm_cons_erase h1).symm
theorem rg_mem {L : Nat} {x : Int} : x ∈ rgI 1 ((L : Int) + 1) ↔ 1 ≤ x ∧ x ≤ L := by
  unfold rgI
  simp only [List.mem_map, List.mem_range]
  constructor
  · rintro ⟨i, hi, rfl⟩; omega
  · rintro ⟨h1, h2⟩; exact ⟨(x - 1).toNat, by omega, by omega⟩
theorem rg_nodup (a b : Int) : (rgI a b).Nodup := by
  unfold rgI
  refine List.Pairwise.map _ (fun i j hij => ?_) (List.nodup_range (n := (b - a).toNat))
  intro z; exact hij (by omega)
end TN
namespace TN
open PySem PySem.Spec PyProof.Rows L2
/-! the look by dicts -/
end TN
namespace TN
open PySem PySem.Spec PyProof.Rows L2
/-! what is made of a numbering -/
theorem ix_tD {R : List D} {k : Nat} (h : k < R.length) : opIx (.tuple R) (.int (k : Nat)) = some (.val R[k]) := by
  rw [opIx_t, atI_nat R k R[k] (List.getElem?_eq_getElem h)]; rfl
theorem ix_lD {R : List D} {k : Nat} (h : k < R.length) : opIx (.list R) (.int (k : Nat)) = some (.val R[k]) := by
  rw [opIx_l, atI_nat R k R[k] (List.getElem?_eq_getElem h)]; rfl
end TN
namespace TN
open PySem PySem.Spec PyProof.Rows L2
/-! parted steps numberings -/
/-! plainly -/
def lowE (ns : List Int) (t : Nat × Nat) : Int := if ns.getD t.2 0 < ns.getD t.1 0 then ns.getD t.2 0 else ns.getD t.1 0
def upE (ns : List Int) (t : Nat × Nat) : Int := if ns.getD t.2 0 > ns.getD t.1 0 then ns.getD t.2 0 else ns.getD t.1 0
def Par (ns : List Int) (ts : List (Nat × Nat)) (t : Int) : Prop := ∀ e ∈ ts, lowE ns e ≤ t ∧ t < upE ns e
theorem getD_memI {ns : List Int} {i : Nat} (h : i < ns.length) : ns.getD i 0 ∈ ns := by
  rw [List.getD_eq_getElem?_getD, List.getElem?_eq_getElem h]
  exact List.getElem_mem h
section
variable {n : Nat} {ts : List (Nat × Nat)} {ns : List Int}
/-- both sides turned about -/
def turn (L : Nat) (t : Int) (x : Int) : Int := if x ≤ t then t - x else (L : Int) + t + 1 - x
/-! what they compute -/
theorem fMin_l (a : Int) (ns : List Int) : fMin [.list ((a :: ns).map .int)] = some (.val (.int (ns.foldl min a))) := by
  simp only [fFold, seqInts, seqOf, intsOf_map]
theorem fMax_l (a : Int) (ns : List Int) : fMax [.list ((a :: ns).map .int)] = some (.val (.int (ns.foldl max a))) := by
  simp only [fFold, seqInts, seqOf, intsOf_map]
end
end TN
namespace TN
open PySem PySem.Spec PyProof.Rows L2

/-! ### exceptions with fields: what must be known of their classes -/
theorem oexB_ok {K : PySem.W.Frag} {C : Addr} (h : oexB K C = true) : OexC K C := by
  unfold oexB at h
  obtain ⟨q, h⟩ := He.ba h
  obtain ⟨h1, h⟩ := He.ba h
  obtain ⟨h2, h⟩ := He.ba h
  obtain ⟨h3, h4⟩ := He.ba h
  refine ⟨?_, of_decide_eq_true h1, of_decide_eq_true h2, of_decide_eq_true h3, h4⟩
  split at q
  · rename_i dd cd sl ho
    split at q
    · rename_i C' bm k0 k1 k2 k3 n k5 hm hs
      simp only [Bool.and_eq_true, beq_iff_eq, Bool.not_eq_true'] at q
      obtain ⟨rfl, rfl, hdel, hdict, ht⟩ := q
      obtain ⟨nm, bs, mro, ns, qn, hd, sn, sub, ab, col, del⟩ := cd
      dsimp only at hm hdel hdict
      subst hm hdel hdict
      have hsl : sl = #[k0, k1, k2, k3, some (.builtin "ValueError.__new__"), k5] := by
        obtain ⟨l⟩ := sl
        simp only at hs
        rw [hs]
      subst hsl
      exact ⟨nm, qn, ns, bs, bm, sn, sub, ab, col, dd, k0, k1, k2, k3, k5, ho, ht⟩
    · cases q
  · cases q
structure OxX (K : PySem.W.Frag) (x : Str) (fs : List Str) : Prop where
  oc : OexC K (He.ga K x)
  ini : PySem.W.findIn K (.ref (He.ga K x)) "__init__" = some (some (.ref (iniA K x)))
  fn : PySem.W.typeIn K (.ref (iniA K x)) = some (.type "function")
  fld : ∀ f ∈ fs, PySem.W.findIn K (.ref (He.ga K x)) f = some none
theorem ox_of {K : PySem.W.Frag} {rs : List (Str × List Str)} (h : oxAll rs K = true) {x : Str} {fs : List Str} (hx : (x, fs) ∈ rs) : OxX K x fs := by
  have q := List.all_eq_true.mp h _ hx
  unfold oxB at q
  obtain ⟨h1, q⟩ := He.ba q
  obtain ⟨h2, q⟩ := He.ba q
  obtain ⟨h3, h4⟩ := He.ba q
  exact ⟨oexB_ok h1, of_decide_eq_true h2, of_decide_eq_true h3, fun f hf => of_decide_eq_true (List.all_eq_true.mp h4 f hf)⟩
/-! ### the head -/
/-! ### making one -/
def putF {α : Type} : List Str → List α → List (Str × α) → List (Str × α)
  | f :: fs, v :: vs, acc => putF fs vs ((f, v) :: acc)
  | _, _, acc => acc
theorem FzN.put {K : PySem.W.Frag} {G : Hp} : ∀ {fs : List Str} {vs : List V} {ds : List D} {av : List (Str × V)} {ad : List (Str × D)}, FzA K G vs ds → FzN K G av ad → FzN K G (putF fs vs av) (putF fs ds ad)
  | [], _, _, _, _, _, h => by simpa [putF] using h
  | f :: fs, _, _, _, _, .nil, h => by simpa [putF] using h
  | f :: fs, _, _, _, _, .cons a b, h => FzN.put (fs := fs) b (.cons a h)
/-- the promise of __init__ -/
def spI (C : Addr) (fs : List Str) : L2.Sp := fun vs H Q _ => ∃ (a : Addr) (us : List V), vs = .ref a :: us ∧ us.length = fs.length ∧ H a = some (exo a C none) ∧ ∀ dx, H dx = none → dx ≠ a → Q .non (upd (upd H dx (exd dx (putF fs us []))) a (exo a C (some dx)))
structure RaiseA (P : Program) (w : World) (K : PySem.W.Frag) (mg : Str → Option Value) (base : Heap) (k : Nat) (x : Str) (fs : List Str) : Prop where
  ox : OxX K x fs
  glo : mg x = some (.ref (He.ga K x))
  ex : ∃ (fd : FuncData) (pn : List Str), FnOk P w K mg base (L2.CX P w) k (iniA K x) fd pn (spI (He.ga K x) fs) ∧ Binds K fd pn []
theorem RaiseA.up {P : Program} {w : World} {K : PySem.W.Frag} {mg : Str → Option Value} {base : Heap} {k : Nat} {x : Str} {fs : List Str} (c : RaiseA P w K mg base k x fs) {j : Nat} (h : k ≤ j) : RaiseA P w K mg base j x fs := by
  obtain ⟨fd, pn, h1, h2⟩ := c.ex
  exact ⟨c.ox, c.glo, fd, pn, h1.mono h, h2⟩
section
variable {P : Program} {w : World} {K : PySem.W.Frag} {mg : Str → Option Value} {base : Heap} {x qual : Str} {params : Arguments} {body : List Stmt} {scope : Scope} {fd : FuncData}
theorem raise2 {self p q f g : Str} {p1 p2 p3 pos p4 p5 p6 pos' : Pos} (F : FunD K "__init__" qual params body scope [] [] (iniA K x) fd) (S : FnScope [self, p, q] [self, p, q] scope) (O : OxX K x [f, g]) (hm : mg x = some (.ref (He.ga K x)))
    (hb : ∀ (kV doc pm : Value) (an : Option Addr) (cdv ct : Value) (us : List Value), us.length = 3 → bindArgs (PySem.W.fnOf "__init__" qual params body scope .none kV doc pm an cdv ct) ⟨us, []⟩ = pure ([self, p, q].zip us))
    (e : body = [.Assign [.Attribute (.Name self p1) f p2] (.Name p p3) pos, .Assign [.Attribute (.Name self p4) g p5] (.Name q p6) pos'])
    (h : ∀ (cdv : Value) (A : Around) (outer : List Env) (s : Shared) (H : Hp) (E : XK), (PE (cxOf (L2.CX P w) P w K mg base [self, p, q] qual scope (iniA K x) cdv A outer s H E) (.Name self p1) (tVar 0) ∧ PE (cxOf (L2.CX P w) P w K mg base [self, p, q] qual scope (iniA K x) cdv A outer s H E) (.Name p p3) (tVar 1) ∧
      swapsWith (.Name p p3) (some (.Attribute (.Name self p1) f p2)) pos.line (cxOf (L2.CX P w) P w K mg base [self, p, q] qual scope (iniA K x) cdv A outer s H E).env = pure false) ∧
      (PE (cxOf (L2.CX P w) P w K mg base [self, p, q] qual scope (iniA K x) cdv A outer s H E) (.Name self p4) (tVar 0) ∧ PE (cxOf (L2.CX P w) P w K mg base [self, p, q] qual scope (iniA K x) cdv A outer s H E) (.Name q p6) (tVar 2) ∧
      swapsWith (.Name q p6) (some (.Attribute (.Name self p4) g p5)) pos'.line (cxOf (L2.CX P w) P w K mg base [self, p, q] qual scope (iniA K x) cdv A outer s H E).env = pure false)) :
    RaiseA P w K mg base 1 x [f, g] := by
  refine ⟨O, hm, fd, [self, p, q], F.ok S (fun vs H Q E hs => ?_) (fun cdv A outer s H vs Q E hr hs => ?_), F.bindsN (ps := [self, p, q]) hb⟩
  · obtain ⟨a, us, rfl, hl, _⟩ := hs
    simpa using hl
  · obtain ⟨a, us, rfl, hl, ha, hq⟩ := hs
    obtain ⟨⟨h1, h2, h3⟩, h4, h5, h6⟩ := h cdv A outer s H E
    match us, hl with
    | [v, u], _ =>
      refine ⟨_, e ▸ pss_cons (ps_ost h1 h2 h3) (pss_cons (ps_ost h4 h5 h6) pss_nil), ?_⟩
      refine ⟨v, rfl, .ref a, rfl, a, _, rfl, O.oc, O.fld f (List.mem_cons_self ..), .inl ⟨ha, fun dx h7 h8 => ?_⟩⟩
      refine ⟨u, rfl, .ref a, rfl, a, _, rfl, O.oc, O.fld g (List.mem_cons_of_mem _ (List.mem_cons_self ..)), .inr ⟨dx, [(f, v)], upd_same, by rw [upd_ne h8, upd_same], by simp, ?_⟩⟩
      have key : upd (upd (upd H dx (exd dx [(f, v)])) a (exo a (He.ga K x) (some dx))) dx (exd dx [(g, u), (f, v)]) = upd (upd H dx (exd dx [(g, u), (f, v)])) a (exo a (He.ga K x) (some dx)) := by
        funext b
        by_cases hb : b = dx
        · subst hb
          rw [upd_same, upd_ne h8, upd_same]
        · rw [upd_ne hb]
          by_cases ha' : b = a
          · subst ha'; rw [upd_same, upd_same]
          · rw [upd_ne ha', upd_ne hb, upd_ne ha', upd_ne hb]
      show Q .non _
      rw [key]
      exact hq dx h7 h8
end
/-! ### raise X(e, ..) -/
def cRaiseA (x : Str) (fs : List Str) (ca : CA) : CS := fun ρ => match ca ρ with
  | .ok ps ρ1 => (match frzA ps ρ1 with
    | some (ds, ρ2) => .exc ⟨x, putF fs ds []⟩ ρ2
    | none => .bad)
  | .exc y ρ1 => .exc y ρ1
  | .bad => .bad
theorem ss_raiseA {X : Cx} {k : Nat} {x : Str} {fs : List Str} {e : Expr} {es : List Expr} {cr : CA} {p pos pos' : Pos} (R : RaiseA X.prog X.w X.K X.mg X.base k x fs) (hc : X.calm = true) (hr : Room (k + 1) X.A) (hg : Gl X x) (hl : LenA cr fs.length) (h1000 : fs.length ≤ 1000) (ha : SA X (e :: es) cr)
    (hdb : (x == ("__debug__" : Str)) = false := by decide) (he : starEach (e :: es) X.env = (false, eval e X.env) :: starEach es X.env := by rfl) (hpl : (backTo pos (starEach es X.env)).any (·.1) = false := by rfl) :
    SS X (.Raise (some (.Call (.Name x p) (e :: es) [] pos)) none pos') (cRaiseA x fs cr) := fun W tk _ => by
  obtain ⟨fd, pn, F1, hb⟩ := R.ex
  refine PSimp (ps_raise hc tk (pmk_oex R.ox.oc R.ox.ini R.ox.fn F1 hr hb .nil (fun pins σ H s e s' I z => ?_) hg R.glo (ha W tk) hdb he hpl)) ?_
  · obtain ⟨_, _, _, _, _, _, _, _, _, _, _, _, z⟩ := z
    exact z.elim
  rintro Dn σ H ⟨L, ρ, G, B, rel, h⟩
  refine ⟨L, ρ, G, B, rel, ?_⟩
  unfold cRaiseA at h
  cases q : cr ρ with
  | bad => rw [q] at h; exact h.elim
  | exc y ρ1 => rw [q] at h; exact fun cls d H' G' r e xk => h cls d σ H' G' r e xk
  | ok ps ρ1 =>
    rw [q] at h
    intro vs H1 G1 r1 e1 pa
    simp only at h
    cases q2 : frzA ps ρ1 with
    | none => rw [q2] at h; exact h.elim
    | some w =>
      obtain ⟨ds, ρ2⟩ := w
      rw [q2] at h
      obtain ⟨G2, r2, e2, fz⟩ := PlA.frz r1 pa q2
      have hlen : vs.length = fs.length := by rw [pa.length, hl _ _ _ q]
      refine ⟨by omega, fun a hna => ⟨a, vs, by simp, hlen, upd_same, fun dx hdx hne => ?_⟩⟩
      rw [upd_ne hne] at hdx
      refine ⟨rfl, dx, putF fs vs [], upd_same, by rw [upd_ne hne, upd_same], hdx, ?_⟩
      have key : upd (del (upd (upd (upd H1 a (exo a (He.ga X.K x) none)) dx (exd dx (putF fs vs []))) a (exo a (He.ga X.K x) (some dx))) a) dx (.xd (putF fs vs [])) = upd H1 dx (.xd (putF fs vs [])) := by
        funext b
        by_cases hb : b = dx
        · subst hb; rw [upd_same, upd_same]
        · rw [upd_ne hb, upd_ne hb]
          by_cases hb2 : b = a
          · subst hb2; rw [del_same, hna]
          · rw [del_ne hb2, upd_ne hb2, upd_ne hb, upd_ne hb2]
      rw [key]
      exact h _ (some dx) σ _ G2 (r2.new (Same.upd_new hdx)) (e1.trans e2) ⟨_, R.glo, rfl, .inr ⟨dx, _, rfl, upd_same, r2.base.free hdx, FzN.put fz .nil⟩⟩
/-! ### e.f, e a caught exception -/
def tFld (K : PySem.W.Frag) (f : Str) (te : TE) : TE := fun σ H Q => te σ H fun x H1 => ∃ (a : Addr) (oe : Obj) (cls : Str) (dd : Addr) (fs : List (Str × V)) (v : V), x = .ref a ∧ H1 a = some (exHO a oe) ∧ ExO K cls (some dd) oe ∧ PySem.W.findIn K (.ref (He.ga K cls)) f = some none ∧ H1 dd = some (.xd fs) ∧ fs.lookup f = some v ∧ Q v H1
theorem pe_fld {X : Cx} {e : Expr} {te : TE} {n : Str} {pos : Pos} (he : PE X e te) (hb : attributeBase e n X.env (eval e X.env) = eval e X.env := by rfl) : PE X (.Attribute e n pos) (tFld X.K n te) := by
  refine ⟨fun pins s σ H Q I h => ?_⟩
  refine attr_of hb (thn (he.run pins s σ H _ I h) fun u s1 hh => ?_)
  obtain ⟨x, H1, I1, rx, a, oe, cls, dd, fs, v, ex, h1, ⟨h2, h3, ⟨vs, h4⟩, hC, _⟩, hno, h5, l, q⟩ := hh
  subst ex
  obtain rfl : u = Value.ref a := rx
  have C := excX hC
  have h6 : ObjOk X.prog X.w H1 s1.heap a (exHO a oe) := I1.hok a _ h1
  obtain ⟨h7, _, _⟩ := h6
  have h7 : s1.heap.get? a = some oe := h7
  obtain ⟨mA, hns, hr⟩ := (show ObjOk X.prog X.w H1 s1.heap dd (.xd fs) from I1.hok dd _ h5)
  obtain ⟨od, ho, hl⟩ := lookIn_ns hns
  obtain ⟨u, hu, ru⟩ := RelO.some_of (v := v) (o := mA n) (by rw [← l]; exact hr n)
  have J : PySem.W.InstAt s1.heap a oe (He.ga X.K cls) (some od) := ⟨h7, h2, by unfold PySem.W.notCls; rw [h4] <;> rfl, by rw [h3]; exact ho⟩
  exact HandSPX.exc_get I1.kIn J C.ga C.gg C.hs (PySem.W.findObj_own C.hd hno rfl (by rw [hl, hu])) (handed_of ru) ⟨v, H1, I1.tok _, ru, q⟩
def lookS (f : Str) : List (D × D) → Option D
  | (.str g, d) :: r => if f = g then some d else lookS f r
  | _ => none
theorem FzN.look {K : PySem.W.Frag} {G : Hp} {f : Str} {d : D} : ∀ {fs : List (Str × V)} {ds : List (Str × D)}, FzN K G fs ds → lookS f (ds.map fun p => (.str p.1, p.2)) = some d → ∃ v, fs.lookup f = some v ∧ Fz K G v d
  | _, _, .nil, h => by cases h
  | _, _, .cons (f := g) (v := v) a b, h => by
    simp only [List.map_cons, lookS] at h
    by_cases e : f = g
    · rw [if_pos e] at h
      cases h
      exact ⟨v, by rw [lookup_put, if_pos e], a⟩
    · rw [if_neg e] at h
      obtain ⟨u, h1, h2⟩ := FzN.look b h
      exact ⟨u, by rw [lookup_put, if_neg e]; exact h1, h2⟩
end TN
namespace TN
open PySem PySem.Spec PyProof.Rows L2
/-! webs joined by marks; round numberings as the laws look at them; the greatest divisor -/
def mx (a b : Int) : Int := if b > a then b else a
def mn (a b : Int) : Int := if b < a then b else a
def mkStep (ms : List Int) (t : Nat × Nat) : List Int := ms.map fun m => if m = mx (ms.getD t.1 0) (ms.getD t.2 0) then mn (ms.getD t.1 0) (ms.getD t.2 0) else m
def marksL (n : Nat) (ts : List (Nat × Nat)) : List Int := ts.foldl mkStep (rgI 0 n)
def maxL : List Int → Int
  | [] => 0
  | a :: xs => xs.foldl max a
def connB (n : Nat) (ts : List (Nat × Nat)) : Bool := decide (maxL (marksL n ts) = 0)
def treeB (n : Nat) (ts : List (Nat × Nat)) : Bool := decide (ts.length + 1 = n) && connB n ts
section
variable {n : Nat} {ts : List (Nat × Nat)}
/-! a round numbering, as the laws look at it -/
def sumsR (ts : List (Nat × Nat)) (ns : List Int) : List Int := ts.map fun t => (ns.getD t.1 0 + ns.getD t.2 0) % (ts.length : Int)
end
/-! the greatest divisor -/
end TN
namespace TN
open PySem PySem.Spec PyProof.Rows L2
/-! spines with legs, and the cases of round numberings -/
def lg (legs : List Nat) : List D := legs.map fun (k : Nat) => PyData.int (k : Nat)
theorem rng_at {m k : Nat} {pre post : List Nat} (e : List.range m = pre ++ k :: post) : k = pre.length ∧ k < m := by
  have h1 : (List.range m)[pre.length]? = some k := by rw [e]; simp
  obtain ⟨h3, h2⟩ := List.getElem?_eq_some_iff.mp h1
  have h4 : pre.length = k := by simpa using h2
  exact ⟨h4.symm, by simp at h3; omega⟩
end TN
namespace TN
open PySem PySem.Spec PyProof.Rows L2
end TN
namespace TN
open PySem PySem.Spec PyProof.Rows L2
end TN
namespace TN
open PySem PySem.Spec PyProof.Rows L2
/-! pieces of webs -/
/-! marks, plainly -/
structure MOk (m : Nat → Nat) : Prop where
  le : ∀ u, m u ≤ u
  id : ∀ u, m (m u) = m u
/-! pieces, plainly -/
/-! one piece -/
def nbrs (ts : List (Nat × Nat)) (v : Nat) : List Nat := ts.filterMap fun t => if hasP t v = true then some (t.1 + t.2 - v) else none
structure Bf (n : Nat) (ts : List (Nat × Nat)) (p : Nat) (F : List Nat) (met : Nat) : Prop where
  nd : F.Nodup
  pin : p ∈ F
  cl : ∀ x ∈ F, x < n ∧ mkN ts x = mkN ts p
  le : met ≤ F.length
  done : ∀ i, i < met → ∀ o ∈ nbrs ts (F.getD i 0), o ∈ F
end TN
namespace TN
open PySem PySem.Spec PyProof.Rows L2
theorem lg_ints (F : List Nat) : lg F = (F.map fun (k : Nat) => (k : Int)).map .int := by rw [List.map_map]; rfl
theorem any_intsL (r : List Int) (k : Int) : ((r.map PyData.int).any fun z => PyData.eqv z (.int k)) = decide (k ∈ r) := by
  induction r with
  | nil => simp
  | cons a r ih =>
    rw [List.map_cons, List.any_cons, ih, PyData.eqv, Bool.eq_iff_iff]
    simp only [Bool.or_eq_true, beq_iff_eq, decide_eq_true_eq, List.mem_cons]
    exact or_congr ⟨Eq.symm, Eq.symm⟩ Iff.rfl
section
variable {n : Nat} {ts : List (Nat × Nat)}
/-! all pieces -/
end
end TN
namespace TN
open PySem PySem.Spec PyProof.Rows L2
/-! two sides of webs -/
def dbl (n : Nat) (ts : List (Nat × Nat)) : List (Nat × Nat) := ts.flatMap fun t => [(t.1, t.2 + n), (t.1 + n, t.2)]
def m2 (n : Nat) (ts : List (Nat × Nat)) : Nat → Nat := mkN (dbl n ts)
section
variable {n : Nat} {ts : List (Nat × Nat)}
structure Sd (n : Nat) (ts : List (Nat × Nat)) (S : Nat → Nat) : Prop where
  le : ∀ v, v < n → S v ≤ 1
  s0 : ∀ v, v < n → S v = 0 → m2 n ts v = m2 n ts (mkN ts v)
  s1 : ∀ v, v < n → S v = 1 → m2 n ts v = m2 n ts (mkN ts v + n)
  rt : ∀ v, v < n → mkN ts v = v → S v = 0
/-! the dict of sides -/
def ks (l : List (Nat × Nat)) : List Nat := l.map (·.1)
def sv (l : List (Nat × Nat)) (k : Nat) : Nat := ((l.find? fun p => p.1 == k).map (·.2)).getD 0
/-! the walk through the pieces -/
structure Df (n : Nat) (ts : List (Nat × Nat)) (P : List Nat) (l : List (Nat × Nat)) (f : List Nat) (hot : List Nat) : Prop where
  nd : (ks l).Nodup
  lt : ∀ k ∈ ks l, k < n
  ok : ∀ p ∈ l, p.2 ≤ 1 ∧ (p.2 = 0 → m2 n ts p.1 = m2 n ts (mkN ts p.1)) ∧ (p.2 = 1 → m2 n ts p.1 = m2 n ts (mkN ts p.1 + n)) ∧ (mkN ts p.1 = p.1 → p.2 = 0)
  rt : ∀ k ∈ ks l, mkN ts k ∈ P
  sub : ∀ r ∈ P, r ∈ ks l
  fr : ∀ x ∈ f, x ∈ ks l
  cl : ∀ k ∈ ks l, k ∉ f → k ∉ hot → ∀ o ∈ nbrs ts k, o ∈ ks l
end
end TN
namespace TN
open PySem PySem.Spec PyProof.Rows L2
section
variable {n : Nat} {ts : List (Nat × Nat)}
end
end TN
namespace TN
open PySem PySem.Spec PyProof.Rows L2
/-! a, b = a list -/
end TN
namespace TN
open PySem PySem.Spec PyProof.Rows L2
/-! products: wide whole numbers, tuples so often -/
end TN
namespace TN
open PySem PySem.Spec PyProof.Rows L2
/-! is, is not: of a truth anything -/
end TN
namespace TN
open PySem PySem.Spec PyProof.Rows L2
/-! spines numbered from both ends -/
section
variable (legs : List Nat)
end
end TN
namespace TNO
open TN
open PySem PySem.Spec PyProof.Rows L2
/-! what is wanted of a run, told from its end: each step leads to what is wanted of the next -/
def gE {α : Type} (r : R α) (Q : α → Rho → Prop) (E : Xc → Rho → Prop) : Prop := match r with
  | .ok p ρ' => Q p ρ'
  | .exc x ρ' => E x ρ'
  | .bad => False
def gS (r : RS) (N : Rho → Prop) (T : D → Bool → Rho → Prop) (E : Xc → Rho → Prop) : Prop := match r with
  | .nx ρ' => N ρ'
  | .ret d fr ρ' => T d fr ρ'
  | .exc x ρ' => E x ρ'
  | .bad => False
def gF (r : FR) (T : D → Bool → List Slot → Prop) (E : Xc → List Slot → Prop) : Prop := match r with
  | .ok d fr o => T d fr o
  | .exc x o => E x o
  | .bad => False
def gO {α : Type} (o : Option α) (Q : α → Prop) : Prop := match o with
  | some a => Q a
  | none => False
def gP {α β : Type} (o : Option (α × β)) (Q : α → β → Prop) : Prop := match o with
  | some (a, b) => Q a b
  | none => False
def lk (p : Pl) (ρ : Rho) (Q : D → Prop) : Prop := gO (look p ρ) Q
def lkA (ps : List Pl) (ρ : Rho) (Q : List D → Prop) : Prop := gO (lookA ps ρ) Q
def fz1 (p : Pl) (ρ : Rho) (Q : D → Rho → Prop) : Prop := gP (frz p ρ) Q
def fzA (ps : List Pl) (ρ : Rho) (Q : List D → Rho → Prop) : Prop := gP (frzA ps ρ) Q
def br (b : Bool) (A B : Prop) : Prop := (b = true → A) ∧ (b = false → B)
def isB (d : D) (Q : Bool → Prop) : Prop := match d with
  | .bool b => Q b
  | _ => False
def isI (d : D) (Q : Int → Prop) : Prop := match d with
  | .int b => Q b
  | _ => False
def sto (i : Nat) (p : Pl) (ρ : Rho) (N : Rho → Prop) : Prop := gO (store i p ρ) N
def setW (ρ : Rho) (i : Nat) (s : Slot) (N : Rho → Prop) : Prop := N (ρ.set i s)
def ownW (i : Nat) (ρ : Rho) (Q : D → Md → Prop) : Prop := gP (ownAt i ρ) Q
def prW (p : Int × Int) (F : Int → Int → Prop) : Prop := F p.1 p.2
def lenW (ds : List D) (P : Prop) : Prop := ds.length ≤ 16777216 ∧ P
def rt (p : Pl) (ρ : Rho) (T : D → Bool → Rho → Prop) : Prop := gS (retP p ρ) (fun _ => False) T (fun _ _ => False)
def wpd (vs : List Nat) (ρ : Rho) (N : Rho → Prop) : Prop := wipeOk ρ vs = true ∧ N (wipeR ρ vs)
def elW (g : D → Rho → Option Rho) (t : CB) (e : CE) (vs : List Nat) (ρ : Rho) (x : D) (P : Option D → Rho → Prop) : Prop :=
  gO (g x ρ) fun ρ1 => gE (t ρ1) (fun b ρ2 => br b (gE (e ρ2) (fun p ρ3 => fz1 p ρ3 fun d ρ4 => wpd vs ρ4 (P (some d))) (fun _ _ => False)) (wpd vs ρ2 (P none))) (fun _ _ => False)
def cpW (ds : List D) (g : D → Rho → Option Rho) (t : CB) (e : CE) (vs : List Nat) (ρ : Rho) (Q : Pl → Rho → Prop) : Prop :=
  wipeOk ρ vs = true ∧ gE (compL g t e vs ds [] (wipeR ρ vs)) (fun acc ρ2 => Q (.tmp (.list acc)) (backR ρ ρ2 vs)) (fun _ _ => False)
/-- a slot that may be set -/
def okS (s : Slot) : Prop := match s with
  | some (_, .lent) => False
  | some (_, .lz) => False
  | _ => True
section
variable {α : Type} {ρ ρ1 ρ2 : Rho} {E : Xc → Rho → Prop} {d : D} {ds : List D} {i j : Nat}
theorem gE_mono {r : R α} {Q Q' : α → Rho → Prop} (h : gE r Q E) (k : ∀ p ρ, Q p ρ → Q' p ρ) : gE r Q' E := by
  cases r with
  | ok p ρ => exact k p ρ h
  | exc x ρ => exact h
  | bad => exact h
theorem gE_bind {β : Type} {r : R α} {k : α → Rho → R β} {Q : β → Rho → Prop} (h : gE r (fun p ρ1 => gE (k p ρ1) Q E) E) : gE (r.bind k) Q E := by
  cases r with
  | ok p ρ => exact h
  | exc x ρ => exact h
  | bad => exact h
theorem gO_ex {o : Option α} {Q : α → Prop} (h : gO o Q) : ∃ x, o = some x ∧ Q x := by
  cases o with
  | none => exact h.elim
  | some x => exact ⟨x, rfl, h⟩
theorem gP_ex {β : Type} {o : Option (α × β)} {Q : α → β → Prop} (h : gP o Q) : ∃ x y, o = some (x, y) ∧ Q x y := by
  cases o with
  | none => exact h.elim
  | some x => exact ⟨x.1, x.2, rfl, h⟩
theorem gO_of {o : Option α} {x : α} {Q : α → Prop} (h : o = some x) (k : Q x) : gO o Q := by rw [h]; exact k
theorem gP_of {β : Type} {o : Option (α × β)} {x : α} {y : β} {Q : α → β → Prop} (h : o = some (x, y)) (k : Q x y) : gP o Q := by rw [h]; exact k
theorem isB_ex {Q : Bool → Prop} (h : isB d Q) : ∃ b, d = .bool b ∧ Q b := by
  cases d <;> first | exact h.elim | exact ⟨_, rfl, h⟩
theorem isI_ex {Q : Int → Prop} (h : isI d Q) : ∃ b, d = .int b ∧ Q b := by
  cases d <;> first | exact h.elim | exact ⟨_, rfl, h⟩
theorem isB_b {b : Bool} {Q : Bool → Prop} (h : Q b) : isB (.bool b) Q := h
theorem isI_i {b : Int} {Q : Int → Prop} (h : Q b) : isI (.int b) Q := h
theorem gE_ok {r : R α} {a : α} {Q : α → Rho → Prop} (h : r = .ok a ρ1) (k : Q a ρ1) : gE r Q E := by rw [h]; exact k
theorem gS_nx {r : RS} {N : Rho → Prop} {T : D → Bool → Rho → Prop} (h : r = .nx ρ1) (k : N ρ1) : gS r N T E := by rw [h]; exact k
theorem gS_nxE {r : RS} {N : Rho → Prop} (h : gS r N (fun _ _ _ => False) (fun _ _ => False)) : ∃ ρ, r = .nx ρ ∧ N ρ := by
  cases r with
  | nx p => exact ⟨p, rfl, h⟩
  | ret d fr p => exact h.elim
  | exc x ρ => exact h.elim
  | bad => exact h.elim
theorem gS_mono {r : RS} {N N' : Rho → Prop} {T T' : D → Bool → Rho → Prop} {E' : Xc → Rho → Prop} (h : gS r N T E) (h1 : ∀ ρ, N ρ → N' ρ) (h2 : ∀ d fr ρ, T d fr ρ → T' d fr ρ) (h3 : ∀ x ρ, E x ρ → E' x ρ) : gS r N' T' E' := by
  cases r with
  | nx p => exact h1 _ h
  | ret d fr p => exact h2 _ _ _ h
  | exc x ρ => exact h3 _ _ h
  | bad => exact h
/-! truths -/
section
variable {A B : Prop}
theorem br_true (h : A) : br true A B := ⟨fun _ => h, fun z => by cases z⟩
theorem br_false (h : B) : br false A B := ⟨(fun z => by cases z), fun _ => h⟩
theorem br_not {b : Bool} (h : br b B A) : br (!b) A B := by
  cases b
  · exact ⟨fun _ => h.2 rfl, fun z => by cases z⟩
  · exact ⟨(fun z => by cases z), fun _ => h.1 rfl⟩
theorem br_t {b : Bool} (h : b = true) (k : A) : br b A B := by rw [h]; exact br_true k
theorem br_f {b : Bool} (h : b = false) (k : B) : br b A B := by rw [h]; exact br_false k
theorem br_p {p : Prop} [Decidable p] (h : p) (k : A) : br (decide p) A B := br_t (decide_eq_true h) k
theorem br_n {p : Prop} [Decidable p] (h : ¬ p) (k : B) : br (decide p) A B := br_f (decide_eq_false h) k
theorem br_dec {p : Prop} [Decidable p] (h1 : p → A) (h2 : ¬ p → B) : br (decide p) A B := ⟨fun h => h1 (of_decide_eq_true h), fun h => h2 (of_decide_eq_false h)⟩
theorem br_and {a b : Bool} (h : br a (br b A B) B) : br (a && b) A B := by
  cases a
  · exact br_false (h.2 rfl)
  · exact h.1 rfl
theorem br_or {a b : Bool} (h : br a A (br b A B)) : br (a || b) A B := by
  cases a
  · exact h.2 rfl
  · exact br_true (h.1 rfl)
theorem br_sT {a b : String} (h : (Str.ofString a == Str.ofString b) = true) (k : A) : br (Str.ofString a == Str.ofString b) A B := br_t h k
theorem br_sF {a b : String} (h : (Str.ofString a == Str.ofString b) = false) (k : B) : br (Str.ofString a == Str.ofString b) A B := br_f h k
end
/-! looking -/
theorem lk_val {Q : D → Prop} (h : Q d) : lk (.val d) ρ Q := h
theorem lk_tmp {Q : D → Prop} (h : Q d) : lk (.tmp d) ρ Q := h
theorem lk_slot {m : Md} {Q : D → Prop} (h : ρ[i]? = some (some (d, m))) (k : Q d) : lk (.slot i) ρ Q := by
  unfold lk; rw [look_slot h]; exact k
theorem lkA_nil {Q : List D → Prop} (h : Q []) : lkA [] ρ Q := h
theorem lkA_cons {p : Pl} {ps : List Pl} {Q : List D → Prop} (h : lk p ρ fun d => lkA ps ρ fun ds => Q (d :: ds)) : lkA (p :: ps) ρ Q := by
  obtain ⟨x, hx, h⟩ := gO_ex h
  obtain ⟨y, hy, h⟩ := gO_ex h
  unfold lkA lookA
  rw [hx, hy]; exact h
theorem fz1_val {Q : D → Rho → Prop} (h : Q d ρ) : fz1 (.val d) ρ Q := h
theorem fz1_tmp {Q : D → Rho → Prop} (h : Q d ρ) : fz1 (.tmp d) ρ Q := h
theorem fz1_own {Q : D → Rho → Prop} (h : ρ[i]? = some (some (d, .own))) (e : ρ.set i (some (d, .fz)) = ρ1) (k : Q d ρ1) : fz1 (.slot i) ρ Q := by
  unfold fz1 frz; simp only [h, e]; exact k
theorem fz1_lent {Q : D → Rho → Prop} (h : ρ[i]? = some (some (d, .lent))) (e : ρ.set i (some (d, .lz)) = ρ1) (k : Q d ρ1) : fz1 (.slot i) ρ Q := by
  unfold fz1 frz; simp only [h, e]; exact k
theorem fzA_nil {Q : List D → Rho → Prop} (h : Q [] ρ) : fzA [] ρ Q := h
theorem fzA_cons {p : Pl} {ps : List Pl} {Q : List D → Rho → Prop} (h : fz1 p ρ fun d ρ1 => fzA ps ρ1 fun ds => Q (d :: ds)) : fzA (p :: ps) ρ Q := by
  obtain ⟨x, y, hx, h⟩ := gP_ex h
  obtain ⟨u, v, hu, h⟩ := gP_ex h
  unfold fzA frzA
  simp only [hx, hu]; exact h
theorem lenW_i {P : Prop} (h : ds.length ≤ 16777216) (k : P) : lenW ds P := ⟨h, k⟩
theorem len_nil {n : Nat} : ([] : List D).length ≤ n := Nat.zero_le _
theorem len_cons {n : Nat} (h : ds.length ≤ n) : (d :: ds).length ≤ n + 1 := Nat.succ_le_succ h
theorem st0 {s s' : Slot} : (s :: ρ).set 0 s' = s' :: ρ := rfl
theorem stS {s s' : Slot} (h : ρ.set i s' = ρ1) : (s :: ρ).set (i + 1) s' = s :: ρ1 := by rw [← h]; rfl
theorem setW_i {s : Slot} {N : Rho → Prop} (e : ρ.set i s = ρ1) (k : N ρ1) : setW ρ i s N := by unfold setW; rw [e]; exact k
theorem ownW_own {Q : D → Md → Prop} (h : ρ[i]? = some (some (d, .own))) (k : Q d .own) : ownW i ρ Q := by
  unfold ownW ownAt; simp only [h]; exact k
theorem ownW_lent {Q : D → Md → Prop} (h : ρ[i]? = some (some (d, .lent))) (k : Q d .lent) : ownW i ρ Q := by
  unfold ownW ownAt; simp only [h]; exact k
theorem can_ok {s : Slot} (h : ρ[i]? = some s) (hs : okS s) : canSet ρ i = true := by
  unfold canSet; rw [h]
  match s, hs with
  | none, _ => rfl
  | some (_, .fz), _ => rfl
  | some (_, .own), _ => rfl
  | some (_, .lent), h => exact h.elim
  | some (_, .lz), h => exact h.elim
theorem okS_jk {k : Option D} : okS (jk k) := by cases k <;> trivial
theorem okS_fz : okS (some (d, .fz)) := trivial
theorem okS_own : okS (some (d, .own)) := trivial
theorem okS_md {md : Md} (h : md = .own ∨ md = .fz) : okS (some (d, md)) := by rcases h with rfl | rfl <;> trivial
theorem sto_val {N : Rho → Prop} (h : canSet ρ i = true) (e : ρ.set i (some (d, .fz)) = ρ1) (k : N ρ1) : sto i (.val d) ρ N := by
  unfold sto store; simp only [h, if_true, e]; exact k
theorem sto_tmp {N : Rho → Prop} (h : canSet ρ i = true) (e : ρ.set i (some (d, .own)) = ρ1) (k : N ρ1) : sto i (.tmp d) ρ N := by
  unfold sto store; simp only [h, if_true, e]; exact k
theorem sto_own {N : Rho → Prop} (hj : ρ[j]? = some (some (d, .own))) (e : ρ.set j (some (d, .fz)) = ρ1) (h : canSet ρ1 i = true) (e2 : ρ1.set i (some (d, .fz)) = ρ2) (k : N ρ2) : sto i (.slot j) ρ N := by
  unfold sto store frz; simp only [hj, e, h, if_true, e2]; exact k
theorem sto_lent {N : Rho → Prop} (hj : ρ[j]? = some (some (d, .lent))) (e : ρ.set j (some (d, .lz)) = ρ1) (h : canSet ρ1 i = true) (e2 : ρ1.set i (some (d, .fz)) = ρ2) (k : N ρ2) : sto i (.slot j) ρ N := by
  unfold sto store frz; simp only [hj, e, h, if_true, e2]; exact k
theorem rt_val {T : D → Bool → Rho → Prop} (h : T d false ρ) : rt (.val d) ρ T := h
theorem rt_tmp {T : D → Bool → Rho → Prop} (h : T d true ρ) : rt (.tmp d) ρ T := h
theorem rt_own {T : D → Bool → Rho → Prop} (h : ρ[i]? = some (some (d, .own))) (e : ρ.set i none = ρ1) (k : T d true ρ1) : rt (.slot i) ρ T := by
  unfold rt retP; simp only [h, e]; exact k
theorem rt_lent {T : D → Bool → Rho → Prop} (h : ρ[i]? = some (some (d, .lent))) (e : ρ.set i (some (d, .lz)) = ρ1) (k : T d false ρ1) : rt (.slot i) ρ T := by
  unfold rt retP; simp only [h, e]; exact k
theorem wipe_nil : wipeR ρ [] = ρ := rfl
theorem wipe_cons {v : Nat} {vs : List Nat} (h : wipeR ρ vs = ρ1) (h2 : ρ1.set v none = ρ2) : wipeR ρ (v :: vs) = ρ2 := by unfold wipeR; rw [h, h2]
theorem wpd_i {vs : List Nat} {N : Rho → Prop} (h : wipeOk ρ vs = true) (e : wipeR ρ vs = ρ1) (k : N ρ1) : wpd vs ρ N := ⟨h, by rw [e]; exact k⟩
def okW (s : Slot) : Prop := match s with
  | none => True
  | some (_, .fz) => True
  | _ => False
theorem okW_none : okW none := trivial
theorem okW_fz : okW (some (d, .fz)) := trivial
theorem okW_jk {k : Option D} : okW (jk k) := by cases k <;> trivial
theorem wOk_nil : wipeOk ρ [] = true := rfl
theorem wOk_cons {v : Nat} {vs : List Nat} {s : Slot} (h : ρ[v]? = some s) (hs : okW s) (k : wipeOk ρ vs = true) : wipeOk ρ (v :: vs) = true := by
  unfold wipeOk at *
  rw [List.all_cons, k, Bool.and_true, h]
  match s, hs with
  | none, _ => rfl
  | some (_, .fz), _ => rfl
def setB (ρ0 ρ : Rho) (vs : List Nat) (N : Rho → Prop) : Prop := N (backR ρ0 ρ vs)
theorem back_nil {ρ0 : Rho} : backR ρ0 ρ [] = ρ := rfl
theorem back_cons {ρ0 : Rho} {v : Nat} {vs : List Nat} {s : Slot} (h : ρ0[v]? = some s) (h1 : backR ρ0 ρ vs = ρ1) (h2 : ρ1.set v s = ρ2) : backR ρ0 ρ (v :: vs) = ρ2 := by
  unfold backR; simp only [h, h1]; exact h2
theorem setB_i {ρ0 : Rho} {vs : List Nat} {N : Rho → Prop} (e : backR ρ0 ρ vs = ρ1) (k : N ρ1) : setB ρ0 ρ vs N := by unfold setB; rw [e]; exact k
/-! expressions -/
section
variable {Q : Pl → Rho → Prop} {a b c : CE} {ca : CA}
theorem w_lit (h : Q (.val d) ρ) : gE (cLit d ρ) Q E := h
theorem w_newK (h : Q (.tmp (.dict [])) ρ) : gE (cNewK ρ) Q E := h
theorem w_newT (h : Q (.tmp (.dict [(.none, .none)])) ρ) : gE (cNewT ρ) Q E := h
theorem w_fz (h : ρ[i]? = some (some (d, .fz))) (k : Q (.val d) ρ) : gE (cVar i ρ) Q E := gE_ok (var_fz h) k
theorem w_lz (h : ρ[i]? = some (some (d, .lz))) (k : Q (.val d) ρ) : gE (cVar i ρ) Q E := gE_ok (by unfold cVar; simp only [h]) k
theorem w_own (h : ρ[i]? = some (some (d, .own))) (k : Q (.slot i) ρ) : gE (cVar i ρ) Q E := gE_ok (var_own h) k
theorem w_lent (h : ρ[i]? = some (some (d, .lent))) (k : Q (.slot i) ρ) : gE (cVar i ρ) Q E := gE_ok (var_lent h) k
theorem w_any {md : Md} (h : ρ[i]? = some (some (d, md))) (hm : md = .fz ∨ md = .lent) (k : ∀ p : Pl, (∀ ρ' : Rho, ρ'[i]? = some (some (d, md)) → look p ρ' = some d) → Q p ρ) : gE (cVar i ρ) Q E := by
  rcases hm with rfl | rfl
  · exact gE_ok (var_fz h) (k _ fun _ _ => rfl)
  · exact gE_ok (var_lent h) (k _ fun _ h => look_slot h)
theorem w_any2 {md : Md} (h : ρ[i]? = some (some (d, md))) (hm : md = .own ∨ md = .fz) (k : ∀ p : Pl, (∀ ρ' : Rho, ρ'[i]? = some (some (d, md)) → look p ρ' = some d) → Q p ρ) : gE (cVar i ρ) Q E := by
  rcases hm with rfl | rfl
  · exact gE_ok (var_own h) (k _ fun _ h => look_slot h)
  · exact gE_ok (var_fz h) (k _ fun _ _ => rfl)
theorem lk_any {md : Md} {p : Pl} {Q : D → Prop} (hp : ∀ ρ' : Rho, ρ'[i]? = some (some (d, md)) → look p ρ' = some d) (h : ρ[i]? = some (some (d, md))) (k : Q d) : lk p ρ Q := by
  unfold lk; rw [hp ρ h]; exact k
theorem gE_op {o : Option Pl} (h : gO o fun r => Q r ρ) : gE (R.ofOpt o ρ) Q E := by
  obtain ⟨x, hx, h⟩ := gO_ex h
  rw [hx]; exact h
theorem w_bin {f : D → D → Option Pl} (h : gE (a ρ) (fun p ρ1 => gE (b ρ1) (fun q ρ2 => lk p ρ2 fun x => lk q ρ2 fun y => gO (f x y) fun r => Q r ρ2) E) E) : gE (cBin f a b ρ) Q E := by
  unfold cBin
  refine gE_bind (gE_mono h fun p ρ1 h => gE_bind (gE_mono h fun q ρ2 h => ?_))
  obtain ⟨x, hx, h⟩ := gO_ex h
  obtain ⟨y, hy, h⟩ := gO_ex h
  simp only [hx, hy]; exact gE_op h
theorem w_un {f : D → Option Pl} (h : gE (a ρ) (fun p ρ1 => lk p ρ1 fun x => gO (f x) fun r => Q r ρ1) E) : gE (cUn f a ρ) Q E := by
  unfold cUn
  refine gE_bind (gE_mono h fun p ρ1 h => ?_)
  obtain ⟨x, hx, h⟩ := gO_ex h
  simp only [hx]; exact gE_op h
theorem w_fn {f : List D → Option Pl} (h : gE (ca ρ) (fun ps ρ1 => lkA ps ρ1 fun x => gO (f x) fun r => Q r ρ1) E) : gE (cFn f ca ρ) Q E := by
  unfold cFn
  refine gE_bind (gE_mono h fun p ρ1 h => ?_)
  obtain ⟨x, hx, h⟩ := gO_ex h
  simp only [hx]; exact gE_op h
theorem w_nil {Q : List Pl → Rho → Prop} (h : Q [] ρ) : gE (cNil ρ) Q E := h
theorem w_cons {Q : List Pl → Rho → Prop} (h : gE (a ρ) (fun p ρ1 => gE (ca ρ1) (fun ps ρ2 => Q (p :: ps) ρ2) E) E) : gE (cCons a ca ρ) Q E :=
  gE_bind (gE_mono h fun _ _ h => gE_bind h)
theorem w_tst {Q : Bool → Rho → Prop} (h : gE (c ρ) (fun p ρ1 => lk p ρ1 fun d => isB d fun b => Q b ρ1) E) : gE (cTst c ρ) Q E := by
  unfold cTst
  refine gE_bind (gE_mono h fun p ρ1 h => ?_)
  obtain ⟨x, hx, h⟩ := gO_ex h
  obtain ⟨y, rfl, h⟩ := isB_ex h
  simp only [hx]; exact h
theorem w_true {Q : Bool → Rho → Prop} (h : Q true ρ) : gE (tTrue ρ) Q E := h
theorem br_if {r s : R α} {k : Bool} {Q : α → Rho → Prop} (h : br k (gE r Q E) (gE s Q E)) : gE (if k = true then r else s) Q E := by
  cases k
  · exact h.2 rfl
  · exact h.1 rfl
theorem w_and {Q : Bool → Rho → Prop} {a b : CB} (h : gE (a ρ) (fun c ρ1 => br c (gE (b ρ1) Q E) (Q false ρ1)) E) : gE (cAnd a b ρ) Q E := by
  unfold cAnd
  exact gE_bind (gE_mono h fun p ρ1 h => br_if h)
theorem w_or {Q : Bool → Rho → Prop} {a b : CB} (h : gE (a ρ) (fun c ρ1 => br c (Q true ρ1) (gE (b ρ1) Q E)) E) : gE (cOr a b ρ) Q E := by
  unfold cOr
  exact gE_bind (gE_mono h fun p ρ1 h => br_if h)
theorem w_not {Q : Bool → Rho → Prop} {a : CB} (h : gE (a ρ) (fun c ρ1 => Q (!c) ρ1) E) : gE (cNot a ρ) Q E := by
  unfold cNot
  exact gE_bind h
theorem w_andV (h : gE (a ρ) (fun p ρ1 => lk p ρ1 fun d => isB d fun k => br k (gE (b ρ1) Q E) (Q (.val (.bool false)) ρ1)) E) : gE (cAndV a b ρ) Q E := by
  unfold cAndV
  exact gE_bind (w_tst (gE_mono h fun p ρ1 h => by
    obtain ⟨x, hx, h⟩ := gO_ex h
    obtain ⟨y, rfl, h⟩ := isB_ex h
    exact gO_of hx (isB_b (br_if h))))
theorem w_orV (h : gE (a ρ) (fun p ρ1 => lk p ρ1 fun d => isB d fun k => br k (Q (.val (.bool true)) ρ1) (gE (b ρ1) Q E)) E) : gE (cOrV a b ρ) Q E := by
  unfold cOrV
  exact gE_bind (w_tst (gE_mono h fun p ρ1 h => by
    obtain ⟨x, hx, h⟩ := gO_ex h
    obtain ⟨y, rfl, h⟩ := isB_ex h
    exact gO_of hx (isB_b (br_if h))))
theorem w_notV (h : gE (a ρ) (fun p ρ1 => lk p ρ1 fun d => isB d fun k => Q (.val (.bool (!k))) ρ1) E) : gE (cNotV a ρ) Q E := by
  unfold cNotV
  exact gE_bind (w_tst h)
theorem w_ite {t : CB} (h : gE (t ρ) (fun k ρ1 => br k (gE (a ρ1) Q E) (gE (b ρ1) Q E)) E) : gE (cIte t a b ρ) Q E := by
  unfold cIte
  exact gE_bind (gE_mono h fun p ρ1 h => br_if h)
theorem w_tup (h : gE (ca ρ) (fun ps ρ1 => fzA ps ρ1 fun ds ρ2 => lenW ds (Q (.val (.tuple ds)) ρ2)) E) : gE (cTup ca ρ) Q E := by
  unfold cTup
  refine gE_bind (gE_mono h fun p ρ1 h => ?_)
  obtain ⟨x, y, hx, h⟩ := gP_ex h
  simp only [hx, h.1, if_true]; exact h.2
theorem w_lst (h : gE (ca ρ) (fun ps ρ1 => fzA ps ρ1 fun ds ρ2 => lenW ds (Q (.tmp (.list ds)) ρ2)) E) : gE (cLst ca ρ) Q E := by
  unfold cLst
  refine gE_bind (gE_mono h fun p ρ1 h => ?_)
  obtain ⟨x, y, hx, h⟩ := gP_ex h
  simp only [hx, h.1, if_true]; exact h.2
theorem w_call {M : FM} (h : gE (ca ρ) (fun ps ρ1 => gE (callM M ps ρ1) Q E) E) : gE (cCall M ca ρ) Q E := gE_bind h
theorem w_chain {f g : D → D → Option Pl} (h : gE (a ρ) (fun p ρ1 => gE (b ρ1) (fun q ρ2 => lk p ρ2 fun x => lk q ρ2 fun y => gO (f x y) fun r => lk r ρ2 fun d => isB d fun k => br k (gE (c ρ2) (fun r ρ3 => lk q ρ3 fun y => lk r ρ3 fun z => gO (g y z) fun s => Q s ρ3) E) (Q (.val (.bool false)) ρ2)) E) E)
    (hf : ∀ x y, (f x y).all fun p => match p with | .val _ => true | _ => false) : gE (cChain f g a b c ρ) Q E := by
  unfold cChain
  refine gE_bind (gE_mono h fun p ρ1 h => gE_bind (gE_mono h fun q ρ2 h => ?_))
  obtain ⟨x, hx, h⟩ := gO_ex h
  obtain ⟨y, hy, h⟩ := gO_ex h
  obtain ⟨r, hr, h⟩ := gO_ex h
  obtain ⟨u, hu, h⟩ := gO_ex h
  obtain ⟨k, rfl, h⟩ := isB_ex h
  have hv := hf x y
  rw [hr] at hv
  match r, hu, hv, hr with
  | .val u, hu, _, hr =>
    cases hu
    simp only [hx, hy, hr]
    cases k with
    | false => exact h.2 rfl
    | true =>
      refine gE_bind (gE_mono (h.1 rfl) fun s ρ3 h => ?_)
      obtain ⟨x', hx', h⟩ := gO_ex h
      obtain ⟨y', hy', h⟩ := gO_ex h
      simp only [hx', hy']; exact gE_op h
  | .tmp u, _, hv, _ => cases hv
  | .slot u, _, hv, _ => cases hv
theorem ltG_val (f : Int → Int → Bool) : ∀ x y, (opLtG f x y).all fun p => match p with | .val _ => true | _ => false := by
  intro x y; cases x <;> cases y <;> rfl
theorem eq_val : ∀ x y, (opEq x y).all fun p => match p with | .val _ => true | _ => false := by
  intro x y; unfold opEq; split <;> rfl
theorem w_chI {f : Int → Int → Bool} {g : D → D → Option Pl} (h : gE (a ρ) (fun p ρ1 => gE (b ρ1) (fun q ρ2 => lk p ρ2 fun x => lk q ρ2 fun y => gO (opLtG f x y) fun r => lk r ρ2 fun d => isB d fun k => br k (gE (c ρ2) (fun r ρ3 => lk q ρ3 fun y => lk r ρ3 fun z => gO (g y z) fun s => Q s ρ3) E) (Q (.val (.bool false)) ρ2)) E) E) : gE (cChain (opLtG f) g a b c ρ) Q E := w_chain h (ltG_val f)
theorem w_chE {g : D → D → Option Pl} (h : gE (a ρ) (fun p ρ1 => gE (b ρ1) (fun q ρ2 => lk p ρ2 fun x => lk q ρ2 fun y => gO (opEq x y) fun r => lk r ρ2 fun d => isB d fun k => br k (gE (c ρ2) (fun r ρ3 => lk q ρ3 fun y => lk r ρ3 fun z => gO (g y z) fun s => Q s ρ3) E) (Q (.val (.bool false)) ρ2)) E) E) : gE (cChain opEq g a b c ρ) Q E := w_chain h eq_val
theorem w_ch3 {e f : Int → Int → Bool} {g : D → D → Option Pl} {d : CE} (h : gE (a ρ) (fun p ρ1 => gE (b ρ1) (fun q ρ2 => lk p ρ2 fun x => lk q ρ2 fun y => gO (opLtG e x y) fun r => lk r ρ2 fun k0 => isB k0 fun k => br k
    (gE (c ρ2) (fun r ρ3 => lk q ρ3 fun y => lk r ρ3 fun z => gO (opLtG f y z) fun s => lk s ρ3 fun k1 => isB k1 fun k' => br k' (gE (d ρ3) (fun s ρ4 => lk r ρ4 fun z => lk s ρ4 fun w => gO (g z w) fun u => Q u ρ4) E) (Q (.val (.bool false)) ρ3)) E) (Q (.val (.bool false)) ρ2)) E) E) : gE (cChain3 (opLtG e) (opLtG f) g a b c d ρ) Q E := by
  unfold cChain3
  refine gE_bind (gE_mono h fun p ρ1 h => gE_bind (gE_mono h fun q ρ2 h => ?_))
  obtain ⟨x, hx, h⟩ := gO_ex h
  obtain ⟨y, hy, h⟩ := gO_ex h
  obtain ⟨r, hr, h⟩ := gO_ex h
  obtain ⟨u, hu, h⟩ := gO_ex h
  obtain ⟨k, rfl, h⟩ := isB_ex h
  have hv := ltG_val e x y
  rw [hr] at hv
  match r, hu, hv, hr with
  | .val u, hu, _, hr =>
    cases hu
    simp only [hx, hy, hr]
    cases k with
    | false => exact h.2 rfl
    | true =>
      unfold cLink
      refine gE_bind (gE_mono (h.1 rfl) fun s ρ3 h => ?_)
      obtain ⟨y', hy', h⟩ := gO_ex h
      obtain ⟨z', hz', h⟩ := gO_ex h
      obtain ⟨s', hs', h⟩ := gO_ex h
      obtain ⟨u', hu', h⟩ := gO_ex h
      obtain ⟨k', rfl, h⟩ := isB_ex h
      have hv' := ltG_val f y' z'
      rw [hs'] at hv'
      match s', hu', hv', hs' with
      | .val u', hu', _, hs' =>
        cases hu'
        simp only [hy', hz', hs']
        cases k' with
        | false => exact h.2 rfl
        | true =>
          refine gE_bind (gE_mono (h.1 rfl) fun s ρ4 h => ?_)
          obtain ⟨z2, hz2, h⟩ := gO_ex h
          obtain ⟨w2, hw2, h⟩ := gO_ex h
          simp only [hz2, hw2]; exact gE_op h
      | .tmp u', _, hv', _ => cases hv'
      | .slot u', _, hv', _ => cases hv'
  | .tmp u, _, hv, _ => cases hv
  | .slot u, _, hv, _ => cases hv
theorem w_sl {lo hi : CO} (h : gE (a ρ) (fun p ρ1 => gE (lo ρ1) (fun l ρ2 => gE (hi ρ2) (fun u ρ3 => lk p ρ3 fun x => gO (opSl x l u) fun r => Q r ρ3) E) E) E) : gE (cSl a lo hi ρ) Q E := by
  unfold cSl
  refine gE_bind (gE_mono h fun p ρ1 h => gE_bind (gE_mono h fun l ρ2 h => gE_bind (gE_mono h fun u ρ3 h => ?_)))
  obtain ⟨x, hx, h⟩ := gO_ex h
  simp only [hx]; exact gE_op h
theorem w_noPart {Q : Option Int → Rho → Prop} (h : Q none ρ) : gE (cNoPart ρ) Q E := h
theorem w_part {Q : Option Int → Rho → Prop} (h : gE (c ρ) (fun p ρ1 => lk p ρ1 fun d => isI d fun n => Q (some n) ρ1) E) : gE (cPart c ρ) Q E := by
  unfold cPart
  refine gE_bind (gE_mono h fun p ρ1 h => ?_)
  obtain ⟨x, hx, h⟩ := gO_ex h
  obtain ⟨n, rfl, h⟩ := isI_ex h
  simp only [hx]; exact h
theorem w_mt {T : String} {f : D → List D → Option Pl} (h : gE (a ρ) (fun p ρ1 => lk p ρ1 fun d0 => tyOk T d0 = true ∧ gE (ca ρ1) (fun ps ρ2 => lk p ρ2 fun d => lkA ps ρ2 fun ds => gO (f d ds) fun r => Q r ρ2) E) E) : gE (cMt T f a ca ρ) Q E := by
  unfold cMt
  refine gE_bind (gE_mono h fun p ρ1 h => ?_)
  obtain ⟨x, hx, h1, h⟩ := gO_ex h
  simp only [hx, h1, if_true]
  refine gE_bind (gE_mono h fun ps ρ2 h => ?_)
  obtain ⟨y, hy, h⟩ := gO_ex h
  obtain ⟨z, hz, h⟩ := gO_ex h
  simp only [hy, hz]; exact gE_op h
theorem w_mutL {xs : List D} {m0 : Md} {f : D → List D → Option (D × D)} (h0 : ownAt i ρ = some (.list xs, m0)) (h : gE (ca ρ) (fun ps ρ1 => fzA ps ρ1 fun ds ρ2 => ownW i ρ2 fun d m => gP (f d ds) fun d' y => setW ρ2 i (some (d', m)) fun ρ3 => Q (.val y) ρ3) E) : gE (cMutL i f ca ρ) Q E := by
  unfold cMutL; simp only [h0]
  unfold cMut
  refine gE_bind (gE_mono h fun p ρ1 h => ?_)
  obtain ⟨x, y, hx, h⟩ := gP_ex h
  obtain ⟨d, m, hd, h⟩ := gP_ex h
  obtain ⟨u, v, hu, h⟩ := gP_ex h
  simp only [hx, hd, hu]; exact h
theorem prW_i {n m : Int} {F : Int → Int → Prop} (h : F n m) : prW (n, m) F := h
theorem w_lstRg {r : Rho → R (Int × Int)} (h : gE (r ρ) (fun ab ρ1 => prW ab fun n m => rgOk n m = true ∧ Q (.tmp (.list ((rgI n m).map .int))) ρ1) E) : gE (cLstRg r ρ) Q E := by
  unfold cLstRg
  cases hr : r ρ with
  | ok ab ρ1 => rw [hr] at h; simp only [h.1, if_true]; exact h.2
  | exc x ρ1 => rw [hr] at h; exact h
  | bad => rw [hr] at h; exact h
theorem w_tupRg {r : Rho → R (Int × Int)} (h : gE (r ρ) (fun ab ρ1 => prW ab fun n m => rgOk n m = true ∧ Q (.val (.tuple ((rgI n m).map .int))) ρ1) E) : gE (cTupRg r ρ) Q E := by
  unfold cTupRg
  cases hr : r ρ with
  | ok ab ρ1 => rw [hr] at h; simp only [h.1, if_true]; exact h.2
  | exc x ρ1 => rw [hr] at h; exact h
  | bad => rw [hr] at h; exact h
theorem w_rg1 {Q : Int × Int → Rho → Prop} (h : gE (a ρ) (fun p ρ1 => lk p ρ1 fun d => isI d fun n => Q (0, n) ρ1) E) : gE (cRg1 a ρ) Q E := by
  unfold cRg1
  refine gE_bind (gE_mono h fun p ρ1 h => ?_)
  obtain ⟨x, hx, h⟩ := gO_ex h
  obtain ⟨n, rfl, h⟩ := isI_ex h
  simp only [hx]; exact h
theorem w_rg2 {Q : Int × Int → Rho → Prop} (h : gE (a ρ) (fun p ρ1 => gE (b ρ1) (fun q ρ2 => lk p ρ2 fun d => isI d fun n => lk q ρ2 fun e => isI e fun m => Q (n, m) ρ2) E) E) : gE (cRg2 a b ρ) Q E := by
  unfold cRg2
  refine gE_bind (gE_mono h fun p ρ1 h => gE_bind (gE_mono h fun q ρ2 h => ?_))
  obtain ⟨x, hx, h⟩ := gO_ex h
  obtain ⟨n, rfl, h⟩ := isI_ex h
  obtain ⟨y, hy, h⟩ := gO_ex h
  obtain ⟨m, rfl, h⟩ := isI_ex h
  simp only [hx, hy]; exact h
theorem rg_i {n m : Int} {Q : Prop} (h : 0 ≤ n ∧ n ≤ 1000000 ∧ 0 ≤ m ∧ m ≤ 1000000) (k : Q) : rgOk n m = true ∧ Q := by
  refine ⟨?_, k⟩
  unfold rgOk
  simp
  omega
theorem w_comp {ci : CI} {g : D → Rho → Option Rho} {t : CB} {e : CE} {vs : List Nat} (h : gE (ci ρ) (fun ds ρ1 => cpW ds g t e vs ρ1 Q) E) : gE (cComp ci g t e vs ρ) Q E := by
  unfold cComp
  cases hr : ci ρ with
  | ok ds ρ1 =>
    rw [hr] at h
    obtain ⟨h1, h2⟩ := h
    simp only [h1, if_true]
    cases hc : compL g t e vs ds [] (wipeR ρ1 vs) with
    | ok acc ρ2 => rw [hc] at h2; exact h2
    | exc x ρ2 => rw [hc] at h2; exact h2.elim
    | bad => rw [hc] at h2; exact h2.elim
  | exc x ρ1 => rw [hr] at h; exact h
  | bad => rw [hr] at h; exact h
end
/-! what is walked -/
section
variable {Q : List D → Rho → Prop} {a b c : CE}
theorem w_it (h : gE (c ρ) (fun p ρ1 => fz1 p ρ1 fun d ρ2 => gO (seqD d) fun ds => Q ds ρ2) E) : gE (cIt c ρ) Q E := by
  unfold cIt cFz
  refine gE_bind (gE_mono h fun p ρ1 h => ?_)
  obtain ⟨x, y, hx, h⟩ := gP_ex h
  obtain ⟨z, hz, h⟩ := gO_ex h
  simp only [hx, hz]; exact h
theorem w_enum (h : gE (c ρ) (fun p ρ1 => fz1 p ρ1 fun d ρ2 => gO (seqOf d) fun ds => Q (enumD ds) ρ2) E) : gE (cEnum c ρ) Q E := by
  unfold cEnum cFz
  refine gE_bind (gE_mono h fun p ρ1 h => ?_)
  obtain ⟨x, y, hx, h⟩ := gP_ex h
  obtain ⟨z, hz, h⟩ := gO_ex h
  simp only [hx, hz, Option.map_some]; exact h
theorem w_rev (h : gE (c ρ) (fun p ρ1 => fz1 p ρ1 fun d ρ2 => gO (seqOf d) fun ds => Q ds.reverse ρ2) E) : gE (cRev c ρ) Q E := by
  unfold cRev cFz
  refine gE_bind (gE_mono h fun p ρ1 h => ?_)
  obtain ⟨x, y, hx, h⟩ := gP_ex h
  obtain ⟨z, hz, h⟩ := gO_ex h
  simp only [hx, hz, Option.map_some]; exact h
theorem w_zip (h : gE (a ρ) (fun p ρ1 => gE (b ρ1) (fun q ρ2 => fz1 p ρ2 fun d ρ3 => fz1 q ρ3 fun e ρ4 => gO (match d, e with | .list a, .list b => some (zipD a b) | .tuple a, .tuple b => some (zipD a b) | _, _ => none) fun ds => Q ds ρ4) E) E) : gE (cZip a b ρ) Q E := by
  unfold cZip
  refine gE_bind (gE_mono h fun p ρ1 h => gE_bind (gE_mono h fun q ρ2 h => ?_))
  obtain ⟨x, y, hx, h⟩ := gP_ex h
  obtain ⟨u, v, hu, h⟩ := gP_ex h
  obtain ⟨z, hz, h⟩ := gO_ex h
  have hf : frzA [p, q] ρ2 = some ([x, u], v) := by simp only [frzA, hx, hu]
  simp only [hf]
  cases x <;> cases u <;> first | (cases hz; exact h) | cases hz
theorem w_r1 (h : gE (a ρ) (fun p ρ1 => lk p ρ1 fun d => isI d fun n => rgFit n = true ∧ Q (rgD 0 n) ρ1) E) : gE (cRng1 a ρ) Q E := by
  unfold cRng1
  refine gE_bind (gE_mono h fun p ρ1 h => ?_)
  obtain ⟨x, hx, h⟩ := gO_ex h
  obtain ⟨n, rfl, h1, h⟩ := isI_ex h
  simp only [hx, h1, if_true]; exact h
theorem w_r2 (h : gE (a ρ) (fun p ρ1 => gE (b ρ1) (fun q ρ2 => lk p ρ2 fun d => isI d fun n => lk q ρ2 fun e => isI e fun m => rgFit n = true ∧ rgFit m = true ∧ Q (rgD n m) ρ2) E) E) : gE (cRng2 a b ρ) Q E := by
  unfold cRng2
  refine gE_bind (gE_mono h fun p ρ1 h => gE_bind (gE_mono h fun q ρ2 h => ?_))
  obtain ⟨x, hx, h⟩ := gO_ex h
  obtain ⟨n, rfl, h⟩ := isI_ex h
  obtain ⟨y, hy, h⟩ := gO_ex h
  obtain ⟨m, rfl, h1, h2, h⟩ := isI_ex h
  simp only [hx, hy, h1, h2, and_self, if_true]; exact h
theorem w_r3 (h : gE (a ρ) (fun p ρ1 => gE (b ρ1) (fun q ρ2 => gE (c ρ2) (fun r ρ3 => lk p ρ3 fun d => isI d fun n => lk q ρ3 fun e => isI e fun m => lk r ρ3 fun f => isI f fun k => k = -1 ∧ rgFit n = true ∧ rgFit m = true ∧ Q (rgDown n m) ρ3) E) E) E) : gE (cRng3 a b c ρ) Q E := by
  unfold cRng3
  refine gE_bind (gE_mono h fun p ρ1 h => gE_bind (gE_mono h fun q ρ2 h => gE_bind (gE_mono h fun q ρ3 h => ?_)))
  obtain ⟨x, hx, h⟩ := gO_ex h
  obtain ⟨n, rfl, h⟩ := isI_ex h
  obtain ⟨y, hy, h⟩ := gO_ex h
  obtain ⟨m, rfl, h⟩ := isI_ex h
  obtain ⟨z, hz, h⟩ := gO_ex h
  obtain ⟨k, rfl, h0, h1, h2, h⟩ := isI_ex h
  simp only [hx, hy, hz, h1, h2, h0, and_self, if_true]; exact h
theorem rf_i {n : Int} {Q : Prop} (h : -1000000 ≤ n ∧ n ≤ 1000000) (k : Q) : rgFit n = true ∧ Q := by
  refine ⟨?_, k⟩
  unfold rgFit
  simp
  omega
end
/-! statements -/
section
variable {N : Rho → Prop} {T : D → Bool → Rho → Prop} {a b : CS} {c : CE} {t : CB} {g : D → Rho → Option Rho}
theorem s_seq (h : gS (a ρ) (fun ρ1 => gS (b ρ1) N T E) T E) : gS (cSeq a b ρ) N T E := by
  unfold cSeq
  cases hr : a ρ <;> (rw [hr] at h; exact h)
theorem s_skip (h : N ρ) : gS (cSkip ρ) N T E := h
theorem gS_to {r : R Pl} {k : Pl → Rho → RS} (h : gE r (fun p ρ1 => gS (k p ρ1) N T E) E) : gS (r.toS k) N T E := by
  cases r with
  | ok p ρ => exact h
  | exc x ρ => exact h
  | bad => exact h
theorem gS_toB {r : R Bool} {k : Bool → Rho → RS} (h : gE r (fun p ρ1 => gS (k p ρ1) N T E) E) : gS (r.toSB k) N T E := by
  cases r with
  | ok p ρ => exact h
  | exc x ρ => exact h
  | bad => exact h
theorem br_ifS {r s : RS} {k : Bool} (h : br k (gS r N T E) (gS s N T E)) : gS (if k = true then r else s) N T E := by
  cases k
  · exact h.2 rfl
  · exact h.1 rfl
theorem rt_gS {p : Pl} (h : rt p ρ T) : gS (retP p ρ) N T E := gS_mono h (fun _ z => z.elim) (fun _ _ _ z => z) (fun _ _ z => z.elim)
theorem s_ret (h : gE (c ρ) (fun p ρ1 => rt p ρ1 T) E) : gS (cRet c ρ) N T E := gS_to (gE_mono h fun _ _ h => rt_gS h)
theorem s_retN (h : T .none false ρ) : gS (cRetN ρ) N T E := h
theorem s_if (h : gE (t ρ) (fun k ρ1 => br k (gS (a ρ1) N T E) (gS (b ρ1) N T E)) E) : gS (cIf t a b ρ) N T E := gS_toB (gE_mono h fun _ _ h => br_ifS h)
theorem s_set (h : gE (c ρ) (fun p ρ1 => sto i p ρ1 N) E) : gS (cSet i c ρ) N T E := by
  unfold cSet
  refine gS_to (gE_mono h fun p ρ1 h => ?_)
  obtain ⟨x, hx, h⟩ := gO_ex h
  simp only [hx]; exact h
theorem s_drop (h : gE (c ρ) (fun _ ρ1 => N ρ1) E) : gS (cDrop c ρ) N T E := gS_to h
theorem s_raise {x : Str} (h : E ⟨x, []⟩ ρ) : gS (cRaise x ρ) N T E := h
theorem s_raiseA {x : Str} {fs : List Str} {ca : CA} (h : gE (ca ρ) (fun ps ρ1 => fzA ps ρ1 fun ds ρ2 => E ⟨x, putF fs ds []⟩ ρ2) E) : gS (cRaiseA x fs ca ρ) N T E := by
  unfold cRaiseA
  cases hr : ca ρ with
  | ok ps ρ1 =>
    rw [hr] at h
    obtain ⟨u, v, hu, h⟩ := gP_ex h
    simp only [hu]; exact h
  | exc x ρ1 => rw [hr] at h; exact h
  | bad => rw [hr] at h; exact h
def tryW (cs : List Str) (i : Nat) (ch : CS) (x : Xc) (ρ : Rho) (N : Rho → Prop) (T : D → Bool → Rho → Prop) : Prop :=
  cs.contains x.cls = true ∧ canSet ρ i = true ∧ gS (ch (ρ.set i (some (exD x.cls x.flds, .fz)))) (fun ρ2 => canSet ρ2 i = true ∧ N (ρ2.set i none)) T (fun _ _ => False)
theorem s_try {cs : List Str} (h : gS (a ρ) N T (fun x ρ1 => tryW cs i b x ρ1 N T)) : gS (cTry cs i a b ρ) N T E := by
  unfold cTry
  cases hr : a ρ with
  | exc x ρ1 =>
    rw [hr] at h
    obtain ⟨h1, h2, h3⟩ := h
    simp only [h1, h2, and_self, if_true]
    cases hb : b (ρ1.set i (some (exD x.cls x.flds, .fz))) with
    | nx ρ2 => rw [hb] at h3; simp only [h3.1, if_true]; exact h3.2
    | ret d fr ρ2 => rw [hb] at h3; exact h3
    | exc x ρ2 => rw [hb] at h3; exact h3.elim
    | bad => rw [hb] at h3; exact h3.elim
  | nx ρ1 => rw [hr] at h; exact h
  | ret d fr ρ1 => rw [hr] at h; exact h
  | bad => rw [hr] at h; exact h
theorem tryW_i {cs : List Str} {x : Str} {fl : List (Str × D)} (h1 : cs.contains x = true) (h2 : canSet ρ i = true) (e : ρ.set i (some (exD x fl, .fz)) = ρ1) (h : gS (b ρ1) (fun ρ2 => canSet ρ2 i = true ∧ setW ρ2 i none N) T (fun _ _ => False)) : tryW cs i b ⟨x, fl⟩ ρ N T := ⟨h1, h2, by rw [e]; exact h⟩
theorem s_for {ci : CI} (h : gE (ci ρ) (fun ds ρ1 => gS (forL g b ds ρ1) N T E) E) : gS (cFor ci g b ρ) N T E := by
  unfold cFor
  cases hr : ci ρ with
  | ok ds ρ1 => rw [hr] at h; exact h
  | exc x ρ1 => rw [hr] at h; exact h
  | bad => rw [hr] at h; exact h
theorem s_unp (h : gE (c ρ) (fun p ρ1 => fz1 p ρ1 fun d ρ2 => gO (g d ρ2) N) E) : gS (cUnp g c ρ) N T E := by
  unfold cUnp
  refine gS_to (gE_mono h fun p ρ1 h => ?_)
  obtain ⟨x, y, hx, h⟩ := gP_ex h
  obtain ⟨z, hz, h⟩ := gO_ex h
  simp only [hx, hz]; exact h
theorem s_aug {f : Int → Int → Int} (h : lk (.slot i) ρ fun d => isI d fun n => gE (c ρ) (fun p ρ1 => lk p ρ1 fun e => isI e fun m => sto i (.val (.int (f n m))) ρ1 N) E) : gS (cAugI i f c ρ) N T E := by
  unfold cAugI
  obtain ⟨x, hx, h⟩ := gO_ex h
  obtain ⟨n, rfl, h⟩ := isI_ex h
  simp only [hx]
  refine gS_to (gE_mono h fun p ρ1 h => ?_)
  obtain ⟨y, hy, h⟩ := gO_ex h
  obtain ⟨m, rfl, h⟩ := isI_ex h
  obtain ⟨z, hz, h⟩ := gO_ex h
  simp only [hy, hz]; exact h
theorem s_par {c2 : CE} (h : gE (c ρ) (fun p ρ1 => gE (c2 ρ1) (fun q ρ2 => fz1 p ρ2 fun d ρ3 => fz1 q ρ3 fun e ρ4 => sto i (.val d) ρ4 fun ρ5 => sto j (.val e) ρ5 N) E) E) : gS (cPar i j c c2 ρ) N T E := by
  have h' : gE (cCons c (cCons c2 cNil) ρ) (fun ps ρ2 => ∃ p q, ps = [p, q] ∧ fz1 p ρ2 fun d ρ3 => fz1 q ρ3 fun e ρ4 => sto i (.val d) ρ4 fun ρ5 => sto j (.val e) ρ5 N) E :=
    w_cons (gE_mono h fun p ρ1 h => w_cons (gE_mono h fun q ρ2 h => w_nil ⟨p, q, rfl, h⟩))
  unfold cPar
  cases hr : cCons c (cCons c2 cNil) ρ with
  | ok ps ρ1 =>
    rw [hr] at h'
    obtain ⟨p, q, rfl, h⟩ := h'
    obtain ⟨x, y, hx, h⟩ := gP_ex h
    obtain ⟨u, v, hu, h⟩ := gP_ex h
    obtain ⟨z, hz, h⟩ := gO_ex h
    obtain ⟨z2, hz2, h⟩ := gO_ex h
    have hf : frzA [p, q] ρ1 = some ([x, u], v) := by simp only [frzA, hx, hu]
    simp only [hf, hz, hz2]; exact h
  | exc x ρ1 => rw [hr] at h'; exact h'
  | bad => rw [hr] at h'; exact h'
def lsD (d : D) (Q : List D → Prop) : Prop := match d with
  | .list a => Q a
  | _ => False
theorem lsD_l {a : List D} {Q : List D → Prop} (h : Q a) : lsD (.list a) Q := h
theorem lsD_ex {Q : List D → Prop} (h : lsD d Q) : ∃ a, d = .list a ∧ Q a := by
  cases d <;> first | exact h.elim | exact ⟨_, rfl, h⟩
theorem at_rfl {a : List D} {k : Int} {e : D} {Q : D → Prop} (h : atI a k = some e) (q : Q e) : gO (atI a k) Q := gO_of h q
theorem putL_rfl {c k d c' : D} {Q : D → Prop} (h : putL c k d = some c') (q : Q c') : gO (putL c k d) Q := gO_of h q
theorem s_augS {f : D → D → D → Option D} {g0 : Int → Int → Int} {ck ce : CE} (h : ownW i ρ fun _ _ => gE (ck ρ) (fun p ρ1 => lk p ρ1 fun d => isI d fun k => ownW i ρ1 fun c _ => lsD c fun a => gO (atI a k) fun e => isI e fun n =>
    gE (ce ρ1) (fun q ρ2 => lk q ρ2 fun e2 => isI e2 fun b => ownW i ρ2 fun c2 m2 => gO (f c2 (.int k) (.int (g0 n b))) fun c' => setW ρ2 i (some (c', m2)) N) E) E) : gS (cAugS i f g0 ck ce ρ) N T E := by
  unfold cAugS
  obtain ⟨c0, m0, h0, h⟩ := gP_ex h
  simp only [h0]
  refine gS_to (gE_mono h fun p ρ1 h => ?_)
  obtain ⟨d, hd, h⟩ := gO_ex h
  obtain ⟨k, rfl, h⟩ := isI_ex h
  obtain ⟨c, m, hc, h⟩ := gP_ex h
  obtain ⟨a, rfl, h⟩ := lsD_ex h
  obtain ⟨e, he, h⟩ := gO_ex h
  obtain ⟨n, rfl, h⟩ := isI_ex h
  simp only [hd, hc, he]
  refine gS_to (gE_mono h fun q ρ2 h => ?_)
  obtain ⟨e2, he2, h⟩ := gO_ex h
  obtain ⟨b, rfl, h⟩ := isI_ex h
  obtain ⟨c2, m2, hc2, h⟩ := gP_ex h
  obtain ⟨c', hc', h⟩ := gO_ex h
  simp only [he2, hc2, hc']; exact h
/-- a walk, by what holds behind each prefix -/
theorem for_inv {α : Type} (xs : List α) (f : α → D) (I : List α → Rho → Prop) {ds : List D} (hds : ds = xs.map f) (h0 : I [] ρ) (hs : ∀ pre x post ρ, xs = pre ++ x :: post → I pre ρ → gO (g (f x) ρ) fun ρ1 => gS (b ρ1) (I (pre ++ [x])) T E) (hN : ∀ ρ, I xs ρ → N ρ) : gS (forL g b ds ρ) N T E := by
  subst hds
  have key : ∀ (post pre : List α) (ρ : Rho), xs = pre ++ post → I pre ρ → gS (forL g b (post.map f) ρ) N T E := by
    intro post
    induction post with
    | nil => intro pre ρ e h; rw [List.append_nil] at e; subst e; exact hN ρ h
    | cons x post ih =>
      intro pre ρ e h
      obtain ⟨ρ1, h1, h2⟩ := gO_ex (hs pre x post ρ e h)
      rw [List.map_cons, forL]
      simp only [h1]
      cases hb : b ρ1 with
      | nx ρ2 => rw [hb] at h2; exact ih (pre ++ [x]) ρ2 (by rw [e]; simp) h2
      | ret d fr ρ2 => rw [hb] at h2; exact h2
      | exc x ρ2 => rw [hb] at h2; exact h2
      | bad => rw [hb] at h2; exact h2
  exact key xs [] ρ rfl h0
end
/-! targets -/
section
variable {N : Rho → Prop}
theorem t_nm (h : sto i (.val d) ρ N) : gO (gNm i d ρ) N := h
theorem t_tp {n : Nat} {g : List D → Rho → Option Rho} (hl : ds.length = n) (h : gO (g ds ρ) N) : gO (gTp n g (.tuple ds) ρ) N := by
  unfold gTp; simp only [hl, if_true]; exact h
theorem t_tie {t : Nat × Nat} {g : List D → Rho → Option Rho} (h : gO (g [.int (t.1 : Nat), .int (t.2 : Nat)] ρ) N) : gO (gTp 2 g (tieD t) ρ) N := h
theorem t_nil (h : N ρ) : gO (gsNil [] ρ) N := h
theorem t_cons {g : D → Rho → Option Rho} {r : List D → Rho → Option Rho} (h : gO (g d ρ) fun ρ1 => gO (r ds ρ1) N) : gO (gsCons g r (d :: ds) ρ) N := by
  obtain ⟨x, hx, h⟩ := gO_ex h
  unfold gsCons
  simp only [hx]; exact h
theorem t_put {f : D → D → D → Option D} {ck : CE} (h : ownW i ρ fun _ _ => gE (ck ρ) (fun p ρ1 => fz1 p ρ1 fun k ρ2 => ownW i ρ2 fun c m => gO (f c k d) fun c' => setW ρ2 i (some (c', m)) N) (fun _ _ => False)) : gO (gPut i f ck d ρ) N := by
  unfold gPut
  obtain ⟨c0, m0, hc0, h⟩ := gP_ex h
  simp only [hc0]
  unfold cFz
  cases hr : ck ρ with
  | ok p ρ1 =>
    rw [hr] at h
    obtain ⟨k, ρ2, hk, h⟩ := gP_ex h
    obtain ⟨c, m, hc, h⟩ := gP_ex h
    obtain ⟨c', hc', h⟩ := gO_ex h
    simp only [R.bind, hk, hc, hc']; exact h
  | exc x ρ1 => rw [hr] at h; exact h.elim
  | bad => rw [hr] at h; exact h.elim
end
/-! comprehensions -/
section
variable {Q : Pl → Rho → Prop} {g : D → Rho → Option Rho} {t : CB} {e : CE} {vs : List Nat}
theorem elW_i {x : D} {P : Option D → Rho → Prop} (h : gO (g x ρ) fun ρ1 => gE (t ρ1) (fun b ρ2 => br b (gE (e ρ2) (fun p ρ3 => fz1 p ρ3 fun d ρ4 => wpd vs ρ4 (P (some d))) (fun _ _ => False)) (wpd vs ρ2 (P none))) (fun _ _ => False)) : elW g t e vs ρ x P := h
theorem elW_comp {x : D} {P : Option D → Rho → Prop} (h : elW g t e vs ρ x P) : ∃ o ρ', P o ρ' ∧ ∀ (ds acc : List D), acc.length < 16777216 → compL g t e vs (x :: ds) acc ρ = compL g t e vs ds (acc ++ o.toList) ρ' := by
  obtain ⟨ρ1, h1, h⟩ := gO_ex h
  cases ht : t ρ1 with
  | ok b ρ2 =>
    rw [ht] at h
    cases b with
    | false =>
      obtain ⟨hw, h⟩ := h.2 rfl
      refine ⟨none, _, h, fun ds acc _ => ?_⟩
      rw [compL]
      simp only [h1, ht, hw, if_true, Option.toList, List.append_nil]
    | true =>
      have h := h.1 rfl
      cases he : e ρ2 with
      | ok p ρ3 =>
        rw [he] at h
        obtain ⟨d, ρ4, hd, hw, h⟩ := gP_ex h
        refine ⟨some d, _, h, fun ds acc hl => ?_⟩
        rw [compL]
        simp only [h1, ht, he, hd, hw, hl, and_self, if_true, Option.toList]
      | exc x ρ3 => rw [he] at h; exact h.elim
      | bad => rw [he] at h; exact h.elim
  | exc x ρ2 => rw [ht] at h; exact h.elim
  | bad => rw [ht] at h; exact h.elim
theorem cp_inv {α : Type} (xs : List α) (f : α → D) (I : List α → List D → Rho → Prop) {ds : List D} (hds : ds = xs.map f) (hl : xs.length ≤ 1000000) (hw : wipeOk ρ vs = true) (ew : wipeR ρ vs = ρ1) (h0 : I [] [] ρ1)
    (hs : ∀ pre x post acc ρ, xs = pre ++ x :: post → I pre acc ρ → elW g t e vs ρ (f x) fun o ρ' => I (pre ++ [x]) (acc ++ o.toList) ρ') (hN : ∀ acc ρ2, I xs acc ρ2 → setB ρ ρ2 vs (Q (.tmp (.list acc)))) : cpW ds g t e vs ρ Q := by
  subst hds
  refine ⟨hw, ?_⟩
  rw [ew]
  have key : ∀ (post pre : List α) (acc : List D) (ρ' : Rho), xs = pre ++ post → acc.length ≤ pre.length → I pre acc ρ' → gE (compL g t e vs (post.map f) acc ρ') (fun acc ρ2 => Q (.tmp (.list acc)) (backR ρ ρ2 vs)) (fun _ _ => False) := by
    intro post
    induction post with
    | nil => intro pre acc ρ' e _ h; rw [List.append_nil] at e; subst e; exact hN acc ρ' h
    | cons x post ih =>
      intro pre acc ρ' e hal h
      obtain ⟨o, ρ2, h2, h3⟩ := elW_comp (hs pre x post acc ρ' e h)
      have hxl : pre.length < xs.length := by rw [e]; simp
      rw [List.map_cons, h3 _ _ (by omega)]
      refine ih (pre ++ [x]) _ ρ2 (by rw [e]; simp) ?_ h2
      cases o <;> simp <;> omega
  exact key xs [] [] ρ1 rfl (Nat.le_refl _) h0
theorem cp_map {α : Type} (xs : List α) (f out : α → D) {ds : List D} (hds : ds = xs.map f) (hl : xs.length ≤ 1000000) (hw : wipeOk ρ vs = true) (ew : wipeR ρ vs = ρ1)
    (hs : ∀ x ∈ xs, elW g t e vs ρ1 (f x) fun o ρ' => o = some (out x) ∧ ρ' = ρ1) (k : Q (.tmp (.list (xs.map out))) ρ) : cpW ds g t e vs ρ Q := by
  refine cp_inv xs f (fun pre acc ρ' => acc = pre.map out ∧ ρ' = ρ1) hds hl hw ew ⟨rfl, rfl⟩ (fun pre x post acc ρ' he h => ?_) fun acc ρ2 h => ?_
  · obtain ⟨rfl, rfl⟩ := h
    have h2 := hs x (by rw [he]; simp)
    have mono : ∀ {P P' : Option D → Rho → Prop}, (∀ o ρ, P o ρ → P' o ρ) → elW g t e vs ρ' (f x) P → elW g t e vs ρ' (f x) P' := by
      intro P P' hp h
      obtain ⟨ρ1, h1, h⟩ := gO_ex h
      refine gO_of h1 ?_
      refine gE_mono h fun b ρ2 h => ⟨fun hb => gE_mono (h.1 hb) fun p ρ3 h => ?_, fun hb => ⟨(h.2 hb).1, hp _ _ (h.2 hb).2⟩⟩
      obtain ⟨d, ρ4, hd, h⟩ := gP_ex h
      exact gP_of hd ⟨h.1, hp _ _ h.2⟩
    refine mono (fun o ρ h => ?_) h2
    obtain ⟨rfl, rfl⟩ := h
    simp
  · obtain ⟨rfl, rfl⟩ := h
    unfold setB; rw [← ew, back_wipe]; exact k
theorem cp_filter {α : Type} (xs : List α) (f : α → D) (out : α → Option D) {ds : List D} (hds : ds = xs.map f) (hl : xs.length ≤ 1000000) (hw : wipeOk ρ vs = true) (ew : wipeR ρ vs = ρ1)
    (hs : ∀ x ∈ xs, elW g t e vs ρ1 (f x) fun o ρ' => o = out x ∧ ρ' = ρ1) (k : Q (.tmp (.list (xs.filterMap out))) ρ) : cpW ds g t e vs ρ Q := by
  refine cp_inv xs f (fun pre acc ρ' => acc = pre.filterMap out ∧ ρ' = ρ1) hds hl hw ew ⟨rfl, rfl⟩ (fun pre x post acc ρ' he h => ?_) fun acc ρ2 h => ?_
  · obtain ⟨rfl, rfl⟩ := h
    have h2 := hs x (by rw [he]; simp)
    have mono : ∀ {P P' : Option D → Rho → Prop}, (∀ o ρ, P o ρ → P' o ρ) → elW g t e vs ρ' (f x) P → elW g t e vs ρ' (f x) P' := by
      intro P P' hp h
      obtain ⟨ρ1, h1, h⟩ := gO_ex h
      refine gO_of h1 ?_
      refine gE_mono h fun b ρ2 h => ⟨fun hb => gE_mono (h.1 hb) fun p ρ3 h => ?_, fun hb => ⟨(h.2 hb).1, hp _ _ (h.2 hb).2⟩⟩
      obtain ⟨d, ρ4, hd, h⟩ := gP_ex h
      exact gP_of hd ⟨h.1, hp _ _ h.2⟩
    refine mono (fun o ρ h => ?_) h2
    obtain ⟨rfl, rfl⟩ := h
    refine ⟨?_, rfl⟩
    rw [List.filterMap_append]
    cases ho : out x <;> simp [List.filterMap, ho]
  · obtain ⟨rfl, rfl⟩ := h
    unfold setB; rw [← ew, back_wipe]; exact k
end
/-! calls -/
section
variable {Q : Pl → Rho → Prop} {M : FM} {ps : List Pl} {as : List (D × Md)} {outs : List Slot} {x : Xc}
theorem c_rv (h : ps.all noSlot = true) (ha : argsOf ps ρ = some as) (hM : (M as).rv = some (d, false)) (k : Q (.val d) ρ) : gE (callM M ps ρ) Q E := gE_ok (callM_rv h ha hM) k
theorem c_rvT (h : ps.all noSlot = true) (ha : argsOf ps ρ = some as) (hM : (M as).rv = some (d, true)) (k : Q (.tmp d) ρ) : gE (callM M ps ρ) Q E := gE_ok (callM_rv h ha hM) k
theorem callM_g {fr : Bool} {ρ' : Rho} (ha : argsOf ps ρ = some as) (nd : noDup ps = true) (hM : M as = .ok d fr outs) (hg : gb ps outs 0 ρ = ρ') : callM M ps ρ = .ok (plR d fr) ρ' := by
  unfold callM
  simp only [ha, nd, if_true, hM, hg]
theorem c_gen (ha : argsOf ps ρ = some as) (nd : noDup ps = true) (hM : M as = .ok d false outs) (hg : gb ps outs 0 ρ = ρ1) (k : Q (.val d) ρ1) : gE (callM M ps ρ) Q E := gE_ok (callM_g ha nd hM hg) k
theorem c_draw {p : Pen} {m : Int} {md : Md} (hi : ρ[i]? = some (some (p.d, md))) (hm : md = .own ∨ md = .lent) (h0 : 0 < m ∧ m < 10000000000000000000000000000000000000000000000000000000000000000000000) (k : ∀ (v : Int) (p' : Pen), 0 ≤ v ∧ v < m → setW ρ i (some (p'.d, md)) fun ρ' => Q (.val (.int v)) ρ') : gE (callM MMDraw [.slot i, .val (.int m)] ρ) Q E :=
  gE_ok (draw_call hi hm h0.1 h0.2) (k _ _ ⟨p.draw_ge h0.1, p.draw_lt h0.1⟩)
end
section
theorem c_pen {Q : Pl → Rho → Prop} {c : Int} (k : ∀ p : Pen, Q (.tmp p.d) ρ) : gE (callM MMPen [.val (.int c)] ρ) Q E := gE_ok (pen_call c) (k _)
end
/-! defs -/
section
variable {n m : Nat} {c : CS} {as : List (D × Md)} {fr : Bool} {r : FR} {o : List Slot} {x : Xc}
theorem gF_mk {T : D → Bool → List Slot → Prop} {E : Xc → List Slot → Prop} (hl : as.length = n) (h : gS (c (as.map some ++ List.replicate (m - n) none)) (fun ρ => T .none false (ρ.take n)) (fun d fr ρ => T d fr (ρ.take n)) (fun x ρ => E x (ρ.take n))) : gF (mkF n m c as) T E := by
  unfold mkF
  simp only [hl, if_true]
  cases hc : c (as.map some ++ List.replicate (m - n) none) <;> (rw [hc] at h; exact h)
theorem rv_gF (h : gF r (fun d' fr' _ => d' = d ∧ fr' = fr) (fun _ _ => False)) : r.rv = some (d, fr) := by
  cases r with
  | ok a b o => obtain ⟨rfl, rfl⟩ := h; rfl
  | exc x o => exact h.elim
  | bad => exact h.elim
theorem ex_gF {T : D → Bool → List Slot → Prop} (h : gF r T (fun _ _ => False)) : ∃ d fr o, r = .ok d fr o ∧ T d fr o := by
  cases r with
  | ok a b o => exact ⟨a, b, o, rfl, h⟩
  | exc x o => exact h.elim
  | bad => exact h.elim
end
end
/-! what operators give, asked for from the end -/
section
variable {Q : Pl → Prop} {i j : Int} {a b : List D} {P : D → D → Prop} {x : D}
theorem ty_i {T : String} {d : D} {A : Prop} (h : tyOk T d = true) (k : A) : tyOk T d = true ∧ A := ⟨h, k⟩
theorem o_add (h : Q (.val (.int (i + j)))) : gO (opAdd (.int i) (.int j)) Q := h
theorem o_sub (h : Q (.val (.int (i - j)))) : gO (opSub (.int i) (.int j)) Q := h
theorem o_neg (h : Q (.val (.int (-i)))) : gO (opNeg (.int i)) Q := h
theorem o_mul (hb : (-1000000000 < i ∧ i < 1000000000) ∨ (-1000000000 < j ∧ j < 1000000000)) (h : Q (.val (.int (i * j)))) : gO (opMul (.int i) (.int j)) Q := by
  refine gO_of ?_ h
  rw [opMul_i, if_pos]
  unfold mulB
  rcases hb with hb | hb
  · simp; left; omega
  · simp; right; omega
theorem o_mod (hb : 0 < j) (h : Q (.val (.int (i % j)))) : gO (opMod (.int i) (.int j)) Q := gO_of (by rw [opMod_i, if_pos hb]) h
theorem o_div (hb : 0 < j ∧ j < 1000000000) (h : Q (.val (.int (i / j)))) : gO (opDiv (.int i) (.int j)) Q := gO_of (by rw [opDiv_i, if_pos ⟨hb.1, by omega⟩]) h
theorem o_ltG {f : Int → Int → Bool} (h : Q (.val (.bool (f i j)))) : gO (opLtG f (.int i) (.int j)) Q := h
theorem o_eqI (h : Q (.val (.bool (decide (i = j))))) : gO (opEq (.int i) (.int j)) Q := gO_of (opEq_int _ _) h
theorem o_neI (h : Q (.val (.bool (!decide (i = j))))) : gO (opNe (.int i) (.int j)) Q := gO_of (opNe_int _ _) h
theorem o_eqB {a b : Bool} (h : Q (.val (.bool (a == b)))) : gO (opEq (.bool a) (.bool b)) Q := gO_of (opEq_bool _ _) h
theorem o_neB {a b : Bool} (h : Q (.val (.bool (!(a == b))))) : gO (opNe (.bool a) (.bool b)) Q := gO_of (opNe_bool _ _) h
theorem o_eqL {a b : List Int} (h : Q (.val (.bool (decide (a = b))))) : gO (opEq (.list (a.map .int)) (.list (b.map .int))) Q := gO_of (opEq_ints _ _) h
theorem o_neL {a b : List Int} (h : Q (.val (.bool (!decide (a = b))))) : gO (opNe (.list (a.map .int)) (.list (b.map .int))) Q := gO_of (opNe_ints _ _) h
theorem o_eqT {a b : List Int} (h : Q (.val (.bool (decide (a = b))))) : gO (opEq (.tuple (a.map .int)) (.tuple (b.map .int))) Q := gO_of (opEq_tints _ _) h
theorem o_neT {a b : List Int} (h : Q (.val (.bool (!decide (a = b))))) : gO (opNe (.tuple (a.map .int)) (.tuple (b.map .int))) Q := gO_of (opNe_tints _ _) h
theorem o_isN (h : Q (.val (.bool (isNonD x)))) : gO (opIsN x .none) Q := h
theorem o_notN (h : Q (.val (.bool (!isNonD x)))) : gO (opNotN x .none) Q := h
theorem o_tup (h : Q (.val (.bool (isTupD x)))) : gO (opIsi "tuple" x) Q := gO_of (isi_tuple x) h
theorem o_lst (h : Q (.val (.bool (isLstD x)))) : gO (opIsi "list" x) Q := gO_of (isi_list x) h
theorem o_bool (h : Q (.val (.bool (isBoolD x)))) : gO (opIsi "bool" x) Q := gO_of (isi_bool x) h
theorem o_lenM {α : Type} {xs : List α} {f : α → D} (h : Q (.val (.int (xs.length : Nat)))) : gO (fLen [.list (xs.map f)]) Q := gO_of (by rw [fLen_l, List.length_map]) h
theorem o_lenMt {α : Type} {xs : List α} {f : α → D} (h : Q (.val (.int (xs.length : Nat)))) : gO (fLen [.tuple (xs.map f)]) Q := gO_of (by rw [fLen_t, List.length_map]) h
theorem o_lenL (h : Q (.val (.int (a.length : Nat)))) : gO (fLen [.list a]) Q := h
theorem o_lenT (h : Q (.val (.int (a.length : Nat)))) : gO (fLen [.tuple a]) Q := h
theorem o_intI (h : Q (.val (.int i))) : gO (fInt [.int i]) Q := h
theorem o_intB {b : Bool} (h : Q (.val (.int (if b = true then 1 else 0)))) : gO (fInt [.bool b]) Q := h
theorem o_abs (h : Q (.val (.int (absI i)))) : gO (fAbs [.int i]) Q := h
theorem o_max2 (h : Q (.val (.int (max i j)))) : gO (fMax2 [.int i, .int j]) Q := by
  have : (if j > i then j else i) = max i j := by split <;> omega
  rw [← this] at h; exact h
theorem o_min2 (h : Q (.val (.int (min i j)))) : gO (fMin2 [.int i, .int j]) Q := by
  have : (if j < i then j else i) = min i j := by split <;> omega
  rw [← this] at h; exact h
theorem o_tupL (h : Q (.val (.tuple a))) : gO (fTuple [.list a]) Q := h
theorem o_tupT (h : Q (.val (.tuple a))) : gO (fTuple [.tuple a]) Q := h
theorem o_lstL (h : Q (.tmp (.list a))) : gO (fListA [.list a]) Q := h
theorem o_lstT (h : Q (.tmp (.list a))) : gO (fListA [.tuple a]) Q := h
theorem o_sumL {ns : List Int} (h : Q (.val (.int ns.sum))) : gO (fSum [.list (ns.map .int)]) Q := gO_of (fSum_l _) h
theorem o_sumT {ns : List Int} (h : Q (.val (.int ns.sum))) : gO (fSum [.tuple (ns.map .int)]) Q := gO_of (fSum_t _) h
theorem o_sortL {ns : List Int} (hl : ns.length ≤ 16777216) (h : Q (.tmp (.list ((sortI ns).map .int)))) : gO (fSorted [.list (ns.map .int)]) Q := gO_of (fSorted_l _ hl) h
theorem o_sortT {ns : List Int} (hl : ns.length ≤ 16777216) (h : Q (.tmp (.list ((sortI ns).map .int)))) : gO (fSorted [.tuple (ns.map .int)]) Q := gO_of (fSorted_t _ hl) h
theorem o_setL {ns : List Int} (hl : ns.length ≤ 4000) (h : Q (.val (.int ((ddI ns).length : Nat)))) : gO (fLenSet (.list (ns.map .int))) Q := gO_of (fLenSet_l _ hl) h
theorem o_setT {ns : List Int} (hl : ns.length ≤ 4000) (h : Q (.val (.int ((ddI ns).length : Nat)))) : gO (fLenSet (.tuple (ns.map .int))) Q := gO_of (fLenSet_t _ hl) h
theorem o_webN {n : Nat} {ts : List (Nat × Nat)} (h : Q (.val (.int (n : Nat)))) : gO (opIx (webD n ts) (.int 0)) Q := h
theorem o_webT {n : Nat} {ts : List (Nat × Nat)} (h : Q (.val (.tuple (ts.map tieD)))) : gO (opIx (webD n ts) (.int 1)) Q := h
theorem o_seqL {Q : List D → Prop} (h : Q a) : gO (seqD (.list a)) Q := h
theorem o_seqT {Q : List D → Prop} (h : Q a) : gO (seqD (.tuple a)) Q := h
theorem o_sqL {Q : List D → Prop} (h : Q a) : gO (seqOf (.list a)) Q := h
theorem o_sqT {Q : List D → Prop} (h : Q a) : gO (seqOf (.tuple a)) Q := h
theorem o_allM {α : Type} {xs : List α} {f : α → Bool} (h : Q (.val (.bool (xs.all f)))) : gO (fAll [.list (xs.map fun x => .bool (f x))]) Q := gO_of (fAll_map _ _) h
theorem o_addT (hl : a.length + b.length ≤ 16777216) (h : Q (.val (.tuple (a ++ b)))) : gO (opAdd (.tuple a) (.tuple b)) Q := gO_of (opAdd_tt hl) h
theorem o_addL (hl : a.length + b.length ≤ 16777216) (h : Q (.tmp (.list (a ++ b)))) : gO (opAdd (.list a) (.list b)) Q := gO_of (opAdd_ll hl) h
theorem o_slL {lo hi : Option Int} (h : Q (.tmp (.list (cutL a lo hi)))) : gO (opSl (.list a) lo hi) Q := h
theorem o_slT {lo hi : Option Int} (h : Q (.val (.tuple (cutL a lo hi)))) : gO (opSl (.tuple a) lo hi) Q := h
theorem o_app (hl : a.length < 16777216) (h : P (.list (a ++ [x])) .none) : gP (fAppend (.list a) [x]) P := gP_of (app_i hl) h
theorem o_extL (hl : a.length + b.length ≤ 16777216) (h : P (.list (a ++ b)) .none) : gP (fExtend (.list a) [.list b]) P := gP_of (ext_l hl) h
theorem o_extT (hl : a.length + b.length ≤ 16777216) (h : P (.list (a ++ b)) .none) : gP (fExtend (.list a) [.tuple b]) P := gP_of (ext_t hl) h
theorem o_eqS {a b : Str} (ha : PyData.strOk a = true) (hb : PyData.strOk b = true) (h : Q (.val (.bool (a == b)))) : gO (opEq (.str a) (.str b)) Q := gO_of (opEq_str a b ha hb) h
theorem o_neS {a b : Str} (ha : PyData.strOk a = true) (hb : PyData.strOk b = true) (h : Q (.val (.bool (!(a == b))))) : gO (opNe (.str a) (.str b)) Q := by
  refine gO_of ?_ h
  unfold opNe
  rw [if_pos ⟨shaped_str ha, shaped_str hb⟩]
  simp [PyData.eqv]
theorem o_strS {a : Str} (h : Q (.val (.bool true))) : gO (opIsi "str" (.str a)) Q := h
theorem fAll_true {α : Type} (xs : List α) : fAll [.list (xs.map fun _ => PyData.bool true)] = some (.val (.bool true)) := by
  rw [fAll_map xs fun _ => true]; simp
theorem o_allT {α : Type} {xs : List α} (h : Q (.val (.bool true))) : gO (fAll [.list (xs.map fun _ => PyData.bool true)]) Q := gO_of (fAll_true xs) h
theorem ix_rfl {x y : D} {r : Pl} (h : opIx x y = some r) (k : Q r) : gO (opIx x y) Q := gO_of h k
theorem put_rfl {c k d c' : D} {Q : D → Prop} (h : putA c k d = some c') (q : Q c') : gO (putA c k d) Q := gO_of h q
end
theorem gO_of_mono {α : Type} {o : Option α} {P P' : α → Prop} (h : gO o P) (k : ∀ x, P x → P' x) : gO o P' := by
  cases o with
  | none => exact h
  | some x => exact k x h
end TNO
namespace TN
open PySem PySem.Spec PyProof.Rows L2
/-! the same over words that nothing unfolds by itself -/
/-! what is wanted of a run, told from its end: each step leads to what is wanted of the next -/
@[irreducible] def gE {α : Type} (r : R α) (Q : α → Rho → Prop) (E : Xc → Rho → Prop) : Prop := TNO.gE r Q E
@[irreducible] def gS (r : RS) (N : Rho → Prop) (T : D → Bool → Rho → Prop) (E : Xc → Rho → Prop) : Prop := TNO.gS r N T E
abbrev gF (r : FR) (T : D → Bool → List Slot → Prop) (E : Xc → List Slot → Prop) : Prop := TNO.gF r T E
@[irreducible] def gO {α : Type} (o : Option α) (Q : α → Prop) : Prop := TNO.gO o Q
@[irreducible] def gP {α β : Type} (o : Option (α × β)) (Q : α → β → Prop) : Prop := TNO.gP o Q
@[irreducible] def lk (p : Pl) (ρ : Rho) (Q : D → Prop) : Prop := TNO.lk p ρ Q
@[irreducible] def lkA (ps : List Pl) (ρ : Rho) (Q : List D → Prop) : Prop := TNO.lkA ps ρ Q
@[irreducible] def fz1 (p : Pl) (ρ : Rho) (Q : D → Rho → Prop) : Prop := TNO.fz1 p ρ Q
@[irreducible] def fzA (ps : List Pl) (ρ : Rho) (Q : List D → Rho → Prop) : Prop := TNO.fzA ps ρ Q
@[irreducible] def br (b : Bool) (A B : Prop) : Prop := TNO.br b A B
@[irreducible] def isB (d : D) (Q : Bool → Prop) : Prop := TNO.isB d Q
@[irreducible] def isI (d : D) (Q : Int → Prop) : Prop := TNO.isI d Q
@[irreducible] def sto (i : Nat) (p : Pl) (ρ : Rho) (N : Rho → Prop) : Prop := TNO.sto i p ρ N
@[irreducible] def setW (ρ : Rho) (i : Nat) (s : Slot) (N : Rho → Prop) : Prop := TNO.setW ρ i s N
@[irreducible] def ownW (i : Nat) (ρ : Rho) (Q : D → Md → Prop) : Prop := TNO.ownW i ρ Q
@[irreducible] def prW (p : Int × Int) (F : Int → Int → Prop) : Prop := TNO.prW p F
@[irreducible] def lenW (ds : List D) (P : Prop) : Prop := TNO.lenW ds P
@[irreducible] def rt (p : Pl) (ρ : Rho) (T : D → Bool → Rho → Prop) : Prop := TNO.rt p ρ T
@[irreducible] def wpd (vs : List Nat) (ρ : Rho) (N : Rho → Prop) : Prop := TNO.wpd vs ρ N
@[irreducible] def elW (g : D → Rho → Option Rho) (t : CB) (e : CE) (vs : List Nat) (ρ : Rho) (x : D) (P : Option D → Rho → Prop) : Prop := TNO.elW g t e vs ρ x P
@[irreducible] def cpW (ds : List D) (g : D → Rho → Option Rho) (t : CB) (e : CE) (vs : List Nat) (ρ : Rho) (Q : Pl → Rho → Prop) : Prop := TNO.cpW ds g t e vs ρ Q
/-- a slot that may be set -/
abbrev okS (s : Slot) : Prop := TNO.okS s
section
variable {α : Type} {ρ ρ1 ρ2 : Rho} {E : Xc → Rho → Prop} {d : D} {ds : List D} {i j : Nat}
theorem gE_mono {r : R α} {Q Q' : α → Rho → Prop} (h : gE r Q E) (k : ∀ p ρ, Q p ρ → Q' p ρ) : gE r Q' E := by with_unfolding_all exact TNO.gE_mono h k
theorem gE_bind {β : Type} {r : R α} {k : α → Rho → R β} {Q : β → Rho → Prop} (h : gE r (fun p ρ1 => gE (k p ρ1) Q E) E) : gE (r.bind k) Q E := by with_unfolding_all exact TNO.gE_bind h
theorem gO_ex {o : Option α} {Q : α → Prop} (h : gO o Q) : ∃ x, o = some x ∧ Q x := by with_unfolding_all exact TNO.gO_ex h
theorem gP_ex {β : Type} {o : Option (α × β)} {Q : α → β → Prop} (h : gP o Q) : ∃ x y, o = some (x, y) ∧ Q x y := by with_unfolding_all exact TNO.gP_ex h
theorem gO_of {o : Option α} {x : α} {Q : α → Prop} (h : o = some x) (k : Q x) : gO o Q := by with_unfolding_all exact TNO.gO_of h k
theorem gP_of {β : Type} {o : Option (α × β)} {x : α} {y : β} {Q : α → β → Prop} (h : o = some (x, y)) (k : Q x y) : gP o Q := by with_unfolding_all exact TNO.gP_of h k
theorem isB_b {b : Bool} {Q : Bool → Prop} (h : Q b) : isB (.bool b) Q := by with_unfolding_all exact TNO.isB_b h
theorem isI_i {b : Int} {Q : Int → Prop} (h : Q b) : isI (.int b) Q := by with_unfolding_all exact TNO.isI_i h
theorem gE_ok {r : R α} {a : α} {Q : α → Rho → Prop} (h : r = .ok a ρ1) (k : Q a ρ1) : gE r Q E := by with_unfolding_all exact TNO.gE_ok h k
theorem gS_nx {r : RS} {N : Rho → Prop} {T : D → Bool → Rho → Prop} (h : r = .nx ρ1) (k : N ρ1) : gS r N T E := by with_unfolding_all exact TNO.gS_nx h k
theorem gS_nxE {r : RS} {N : Rho → Prop} (h : gS r N (fun _ _ _ => False) (fun _ _ => False)) : ∃ ρ, r = .nx ρ ∧ N ρ := by with_unfolding_all exact TNO.gS_nxE h
/-! truths -/
section
variable {A B : Prop}
theorem br_true (h : A) : br true A B := by with_unfolding_all exact TNO.br_true h
theorem br_false (h : B) : br false A B := by with_unfolding_all exact TNO.br_false h
theorem br_not {b : Bool} (h : br b B A) : br (!b) A B := by with_unfolding_all exact TNO.br_not h
theorem br_t {b : Bool} (h : b = true) (k : A) : br b A B := by with_unfolding_all exact TNO.br_t h k
theorem br_f {b : Bool} (h : b = false) (k : B) : br b A B := by with_unfolding_all exact TNO.br_f h k
theorem br_p {p : Prop} [Decidable p] (h : p) (k : A) : br (decide p) A B := by with_unfolding_all exact TNO.br_p h k
theorem br_n {p : Prop} [Decidable p] (h : ¬ p) (k : B) : br (decide p) A B := by with_unfolding_all exact TNO.br_n h k
theorem br_dec {p : Prop} [Decidable p] (h1 : p → A) (h2 : ¬ p → B) : br (decide p) A B := by with_unfolding_all exact TNO.br_dec h1 h2
theorem br_and {a b : Bool} (h : br a (br b A B) B) : br (a && b) A B := by with_unfolding_all exact TNO.br_and h
theorem br_or {a b : Bool} (h : br a A (br b A B)) : br (a || b) A B := by with_unfolding_all exact TNO.br_or h
theorem br_sT {a b : String} (h : (Str.ofString a == Str.ofString b) = true) (k : A) : br (Str.ofString a == Str.ofString b) A B := by with_unfolding_all exact TNO.br_sT h k
theorem br_sF {a b : String} (h : (Str.ofString a == Str.ofString b) = false) (k : B) : br (Str.ofString a == Str.ofString b) A B := by with_unfolding_all exact TNO.br_sF h k
end
/-! looking -/
theorem lk_val {Q : D → Prop} (h : Q d) : lk (.val d) ρ Q := by with_unfolding_all exact TNO.lk_val h
theorem lk_tmp {Q : D → Prop} (h : Q d) : lk (.tmp d) ρ Q := by with_unfolding_all exact TNO.lk_tmp h
theorem lk_slot {m : Md} {Q : D → Prop} (h : ρ[i]? = some (some (d, m))) (k : Q d) : lk (.slot i) ρ Q := by with_unfolding_all exact TNO.lk_slot h k
theorem lkA_nil {Q : List D → Prop} (h : Q []) : lkA [] ρ Q := by with_unfolding_all exact TNO.lkA_nil h
theorem lkA_cons {p : Pl} {ps : List Pl} {Q : List D → Prop} (h : lk p ρ fun d => lkA ps ρ fun ds => Q (d :: ds)) : lkA (p :: ps) ρ Q := by with_unfolding_all exact TNO.lkA_cons h
theorem fz1_val {Q : D → Rho → Prop} (h : Q d ρ) : fz1 (.val d) ρ Q := by with_unfolding_all exact TNO.fz1_val h
theorem fz1_tmp {Q : D → Rho → Prop} (h : Q d ρ) : fz1 (.tmp d) ρ Q := by with_unfolding_all exact TNO.fz1_tmp h
theorem fz1_own {Q : D → Rho → Prop} (h : ρ[i]? = some (some (d, .own))) (e : ρ.set i (some (d, .fz)) = ρ1) (k : Q d ρ1) : fz1 (.slot i) ρ Q := by with_unfolding_all exact TNO.fz1_own h e k
theorem fz1_lent {Q : D → Rho → Prop} (h : ρ[i]? = some (some (d, .lent))) (e : ρ.set i (some (d, .lz)) = ρ1) (k : Q d ρ1) : fz1 (.slot i) ρ Q := by with_unfolding_all exact TNO.fz1_lent h e k
theorem fzA_nil {Q : List D → Rho → Prop} (h : Q [] ρ) : fzA [] ρ Q := by with_unfolding_all exact TNO.fzA_nil h
theorem fzA_cons {p : Pl} {ps : List Pl} {Q : List D → Rho → Prop} (h : fz1 p ρ fun d ρ1 => fzA ps ρ1 fun ds => Q (d :: ds)) : fzA (p :: ps) ρ Q := by with_unfolding_all exact TNO.fzA_cons h
theorem lenW_i {P : Prop} (h : ds.length ≤ 16777216) (k : P) : lenW ds P := by with_unfolding_all exact TNO.lenW_i h k
theorem len_nil {n : Nat} : ([] : List D).length ≤ n := by with_unfolding_all exact TNO.len_nil
theorem len_cons {n : Nat} (h : ds.length ≤ n) : (d :: ds).length ≤ n + 1 := by with_unfolding_all exact TNO.len_cons h
theorem st0 {s s' : Slot} : (s :: ρ).set 0 s' = s' :: ρ := by with_unfolding_all exact TNO.st0
theorem stS {s s' : Slot} (h : ρ.set i s' = ρ1) : (s :: ρ).set (i + 1) s' = s :: ρ1 := by with_unfolding_all exact TNO.stS h
theorem setW_i {s : Slot} {N : Rho → Prop} (e : ρ.set i s = ρ1) (k : N ρ1) : setW ρ i s N := by with_unfolding_all exact TNO.setW_i e k
theorem ownW_own {Q : D → Md → Prop} (h : ρ[i]? = some (some (d, .own))) (k : Q d .own) : ownW i ρ Q := by with_unfolding_all exact TNO.ownW_own h k
theorem ownW_lent {Q : D → Md → Prop} (h : ρ[i]? = some (some (d, .lent))) (k : Q d .lent) : ownW i ρ Q := by with_unfolding_all exact TNO.ownW_lent h k
theorem can_ok {s : Slot} (h : ρ[i]? = some s) (hs : okS s) : canSet ρ i = true := by with_unfolding_all exact TNO.can_ok h hs
theorem okS_jk {k : Option D} : okS (jk k) := by with_unfolding_all exact TNO.okS_jk
theorem okS_fz : okS (some (d, .fz)) := by with_unfolding_all exact TNO.okS_fz
theorem okS_own : okS (some (d, .own)) := by with_unfolding_all exact TNO.okS_own
theorem okS_md {md : Md} (h : md = .own ∨ md = .fz) : okS (some (d, md)) := by with_unfolding_all exact TNO.okS_md h
theorem sto_val {N : Rho → Prop} (h : canSet ρ i = true) (e : ρ.set i (some (d, .fz)) = ρ1) (k : N ρ1) : sto i (.val d) ρ N := by with_unfolding_all exact TNO.sto_val h e k
theorem sto_tmp {N : Rho → Prop} (h : canSet ρ i = true) (e : ρ.set i (some (d, .own)) = ρ1) (k : N ρ1) : sto i (.tmp d) ρ N := by with_unfolding_all exact TNO.sto_tmp h e k
theorem sto_own {N : Rho → Prop} (hj : ρ[j]? = some (some (d, .own))) (e : ρ.set j (some (d, .fz)) = ρ1) (h : canSet ρ1 i = true) (e2 : ρ1.set i (some (d, .fz)) = ρ2) (k : N ρ2) : sto i (.slot j) ρ N := by with_unfolding_all exact TNO.sto_own hj e h e2 k
theorem sto_lent {N : Rho → Prop} (hj : ρ[j]? = some (some (d, .lent))) (e : ρ.set j (some (d, .lz)) = ρ1) (h : canSet ρ1 i = true) (e2 : ρ1.set i (some (d, .fz)) = ρ2) (k : N ρ2) : sto i (.slot j) ρ N := by with_unfolding_all exact TNO.sto_lent hj e h e2 k
theorem rt_val {T : D → Bool → Rho → Prop} (h : T d false ρ) : rt (.val d) ρ T := by with_unfolding_all exact TNO.rt_val h
theorem rt_tmp {T : D → Bool → Rho → Prop} (h : T d true ρ) : rt (.tmp d) ρ T := by with_unfolding_all exact TNO.rt_tmp h
theorem rt_own {T : D → Bool → Rho → Prop} (h : ρ[i]? = some (some (d, .own))) (e : ρ.set i none = ρ1) (k : T d true ρ1) : rt (.slot i) ρ T := by with_unfolding_all exact TNO.rt_own h e k
theorem rt_lent {T : D → Bool → Rho → Prop} (h : ρ[i]? = some (some (d, .lent))) (e : ρ.set i (some (d, .lz)) = ρ1) (k : T d false ρ1) : rt (.slot i) ρ T := by with_unfolding_all exact TNO.rt_lent h e k
theorem wipe_nil : wipeR ρ [] = ρ := by with_unfolding_all exact TNO.wipe_nil
theorem wipe_cons {v : Nat} {vs : List Nat} (h : wipeR ρ vs = ρ1) (h2 : ρ1.set v none = ρ2) : wipeR ρ (v :: vs) = ρ2 := by with_unfolding_all exact TNO.wipe_cons h h2
theorem wpd_i {vs : List Nat} {N : Rho → Prop} (h : wipeOk ρ vs = true) (e : wipeR ρ vs = ρ1) (k : N ρ1) : wpd vs ρ N := by with_unfolding_all exact TNO.wpd_i h e k
abbrev okW (s : Slot) : Prop := TNO.okW s
theorem okW_none : okW none := by with_unfolding_all exact TNO.okW_none
theorem okW_fz : okW (some (d, .fz)) := by with_unfolding_all exact TNO.okW_fz
theorem okW_jk {k : Option D} : okW (jk k) := by with_unfolding_all exact TNO.okW_jk
theorem wOk_nil : wipeOk ρ [] = true := by with_unfolding_all exact TNO.wOk_nil
theorem wOk_cons {v : Nat} {vs : List Nat} {s : Slot} (h : ρ[v]? = some s) (hs : okW s) (k : wipeOk ρ vs = true) : wipeOk ρ (v :: vs) = true := by with_unfolding_all exact TNO.wOk_cons h hs k
@[irreducible] def setB (ρ0 ρ : Rho) (vs : List Nat) (N : Rho → Prop) : Prop := TNO.setB ρ0 ρ vs N
theorem back_nil {ρ0 : Rho} : backR ρ0 ρ [] = ρ := by with_unfolding_all exact TNO.back_nil
theorem back_cons {ρ0 : Rho} {v : Nat} {vs : List Nat} {s : Slot} (h : ρ0[v]? = some s) (h1 : backR ρ0 ρ vs = ρ1) (h2 : ρ1.set v s = ρ2) : backR ρ0 ρ (v :: vs) = ρ2 := by with_unfolding_all exact TNO.back_cons h h1 h2
theorem setB_i {ρ0 : Rho} {vs : List Nat} {N : Rho → Prop} (e : backR ρ0 ρ vs = ρ1) (k : N ρ1) : setB ρ0 ρ vs N := by with_unfolding_all exact TNO.setB_i e k
/-! expressions -/
section
variable {Q : Pl → Rho → Prop} {a b c : CE} {ca : CA}
theorem w_lit (h : Q (.val d) ρ) : gE (cLit d ρ) Q E := by with_unfolding_all exact TNO.w_lit h
theorem w_newK (h : Q (.tmp (.dict [])) ρ) : gE (cNewK ρ) Q E := by with_unfolding_all exact TNO.w_newK h
theorem w_newT (h : Q (.tmp (.dict [(.none, .none)])) ρ) : gE (cNewT ρ) Q E := by with_unfolding_all exact TNO.w_newT h
theorem w_fz (h : ρ[i]? = some (some (d, .fz))) (k : Q (.val d) ρ) : gE (cVar i ρ) Q E := by with_unfolding_all exact TNO.w_fz h k
theorem w_lz (h : ρ[i]? = some (some (d, .lz))) (k : Q (.val d) ρ) : gE (cVar i ρ) Q E := by with_unfolding_all exact TNO.w_lz h k
theorem w_own (h : ρ[i]? = some (some (d, .own))) (k : Q (.slot i) ρ) : gE (cVar i ρ) Q E := by with_unfolding_all exact TNO.w_own h k
theorem w_lent (h : ρ[i]? = some (some (d, .lent))) (k : Q (.slot i) ρ) : gE (cVar i ρ) Q E := by with_unfolding_all exact TNO.w_lent h k
theorem w_any {md : Md} (h : ρ[i]? = some (some (d, md))) (hm : md = .fz ∨ md = .lent) (k : ∀ p : Pl, (∀ ρ' : Rho, ρ'[i]? = some (some (d, md)) → look p ρ' = some d) → Q p ρ) : gE (cVar i ρ) Q E := by with_unfolding_all exact TNO.w_any h hm k
theorem w_any2 {md : Md} (h : ρ[i]? = some (some (d, md))) (hm : md = .own ∨ md = .fz) (k : ∀ p : Pl, (∀ ρ' : Rho, ρ'[i]? = some (some (d, md)) → look p ρ' = some d) → Q p ρ) : gE (cVar i ρ) Q E := by with_unfolding_all exact TNO.w_any2 h hm k
theorem lk_any {md : Md} {p : Pl} {Q : D → Prop} (hp : ∀ ρ' : Rho, ρ'[i]? = some (some (d, md)) → look p ρ' = some d) (h : ρ[i]? = some (some (d, md))) (k : Q d) : lk p ρ Q := by with_unfolding_all exact TNO.lk_any hp h k
theorem w_bin {f : D → D → Option Pl} (h : gE (a ρ) (fun p ρ1 => gE (b ρ1) (fun q ρ2 => lk p ρ2 fun x => lk q ρ2 fun y => gO (f x y) fun r => Q r ρ2) E) E) : gE (cBin f a b ρ) Q E := by with_unfolding_all exact TNO.w_bin h
theorem w_un {f : D → Option Pl} (h : gE (a ρ) (fun p ρ1 => lk p ρ1 fun x => gO (f x) fun r => Q r ρ1) E) : gE (cUn f a ρ) Q E := by with_unfolding_all exact TNO.w_un h
theorem w_fn {f : List D → Option Pl} (h : gE (ca ρ) (fun ps ρ1 => lkA ps ρ1 fun x => gO (f x) fun r => Q r ρ1) E) : gE (cFn f ca ρ) Q E := by with_unfolding_all exact TNO.w_fn h
theorem w_nil {Q : List Pl → Rho → Prop} (h : Q [] ρ) : gE (cNil ρ) Q E := by with_unfolding_all exact TNO.w_nil h
theorem w_cons {Q : List Pl → Rho → Prop} (h : gE (a ρ) (fun p ρ1 => gE (ca ρ1) (fun ps ρ2 => Q (p :: ps) ρ2) E) E) : gE (cCons a ca ρ) Q E := by with_unfolding_all exact TNO.w_cons h
theorem w_tst {Q : Bool → Rho → Prop} (h : gE (c ρ) (fun p ρ1 => lk p ρ1 fun d => isB d fun b => Q b ρ1) E) : gE (cTst c ρ) Q E := by with_unfolding_all exact TNO.w_tst h
theorem w_true {Q : Bool → Rho → Prop} (h : Q true ρ) : gE (tTrue ρ) Q E := by with_unfolding_all exact TNO.w_true h
theorem w_and {Q : Bool → Rho → Prop} {a b : CB} (h : gE (a ρ) (fun c ρ1 => br c (gE (b ρ1) Q E) (Q false ρ1)) E) : gE (cAnd a b ρ) Q E := by with_unfolding_all exact TNO.w_and h
theorem w_or {Q : Bool → Rho → Prop} {a b : CB} (h : gE (a ρ) (fun c ρ1 => br c (Q true ρ1) (gE (b ρ1) Q E)) E) : gE (cOr a b ρ) Q E := by with_unfolding_all exact TNO.w_or h
theorem w_not {Q : Bool → Rho → Prop} {a : CB} (h : gE (a ρ) (fun c ρ1 => Q (!c) ρ1) E) : gE (cNot a ρ) Q E := by with_unfolding_all exact TNO.w_not h
theorem w_andV (h : gE (a ρ) (fun p ρ1 => lk p ρ1 fun d => isB d fun k => br k (gE (b ρ1) Q E) (Q (.val (.bool false)) ρ1)) E) : gE (cAndV a b ρ) Q E := by with_unfolding_all exact TNO.w_andV h
theorem w_orV (h : gE (a ρ) (fun p ρ1 => lk p ρ1 fun d => isB d fun k => br k (Q (.val (.bool true)) ρ1) (gE (b ρ1) Q E)) E) : gE (cOrV a b ρ) Q E := by with_unfolding_all exact TNO.w_orV h
theorem w_notV (h : gE (a ρ) (fun p ρ1 => lk p ρ1 fun d => isB d fun k => Q (.val (.bool (!k))) ρ1) E) : gE (cNotV a ρ) Q E := by with_unfolding_all exact TNO.w_notV h
theorem w_ite {t : CB} (h : gE (t ρ) (fun k ρ1 => br k (gE (a ρ1) Q E) (gE (b ρ1) Q E)) E) : gE (cIte t a b ρ) Q E := by with_unfolding_all exact TNO.w_ite h
theorem w_tup (h : gE (ca ρ) (fun ps ρ1 => fzA ps ρ1 fun ds ρ2 => lenW ds (Q (.val (.tuple ds)) ρ2)) E) : gE (cTup ca ρ) Q E := by with_unfolding_all exact TNO.w_tup h
theorem w_lst (h : gE (ca ρ) (fun ps ρ1 => fzA ps ρ1 fun ds ρ2 => lenW ds (Q (.tmp (.list ds)) ρ2)) E) : gE (cLst ca ρ) Q E := by with_unfolding_all exact TNO.w_lst h
theorem w_call {M : FM} (h : gE (ca ρ) (fun ps ρ1 => gE (callM M ps ρ1) Q E) E) : gE (cCall M ca ρ) Q E := by with_unfolding_all exact TNO.w_call h
theorem w_chI {f : Int → Int → Bool} {g : D → D → Option Pl} (h : gE (a ρ) (fun p ρ1 => gE (b ρ1) (fun q ρ2 => lk p ρ2 fun x => lk q ρ2 fun y => gO (opLtG f x y) fun r => lk r ρ2 fun d => isB d fun k => br k (gE (c ρ2) (fun r ρ3 => lk q ρ3 fun y => lk r ρ3 fun z => gO (g y z) fun s => Q s ρ3) E) (Q (.val (.bool false)) ρ2)) E) E) : gE (cChain (opLtG f) g a b c ρ) Q E := by with_unfolding_all exact TNO.w_chI h
theorem w_chE {g : D → D → Option Pl} (h : gE (a ρ) (fun p ρ1 => gE (b ρ1) (fun q ρ2 => lk p ρ2 fun x => lk q ρ2 fun y => gO (opEq x y) fun r => lk r ρ2 fun d => isB d fun k => br k (gE (c ρ2) (fun r ρ3 => lk q ρ3 fun y => lk r ρ3 fun z => gO (g y z) fun s => Q s ρ3) E) (Q (.val (.bool false)) ρ2)) E) E) : gE (cChain opEq g a b c ρ) Q E := by with_unfolding_all exact TNO.w_chE h
theorem w_ch3 {e f : Int → Int → Bool} {g : D → D → Option Pl} {d : CE} (h : gE (a ρ) (fun p ρ1 => gE (b ρ1) (fun q ρ2 => lk p ρ2 fun x => lk q ρ2 fun y => gO (opLtG e x y) fun r => lk r ρ2 fun k0 => isB k0 fun k => br k
    (gE (c ρ2) (fun r ρ3 => lk q ρ3 fun y => lk r ρ3 fun z => gO (opLtG f y z) fun s => lk s ρ3 fun k1 => isB k1 fun k' => br k' (gE (d ρ3) (fun s ρ4 => lk r ρ4 fun z => lk s ρ4 fun w => gO (g z w) fun u => Q u ρ4) E) (Q (.val (.bool false)) ρ3)) E) (Q (.val (.bool false)) ρ2)) E) E) : gE (cChain3 (opLtG e) (opLtG f) g a b c d ρ) Q E := by with_unfolding_all exact TNO.w_ch3 h
theorem w_sl {lo hi : CO} (h : gE (a ρ) (fun p ρ1 => gE (lo ρ1) (fun l ρ2 => gE (hi ρ2) (fun u ρ3 => lk p ρ3 fun x => gO (opSl x l u) fun r => Q r ρ3) E) E) E) : gE (cSl a lo hi ρ) Q E := by with_unfolding_all exact TNO.w_sl h
theorem w_noPart {Q : Option Int → Rho → Prop} (h : Q none ρ) : gE (cNoPart ρ) Q E := by with_unfolding_all exact TNO.w_noPart h
theorem w_part {Q : Option Int → Rho → Prop} (h : gE (c ρ) (fun p ρ1 => lk p ρ1 fun d => isI d fun n => Q (some n) ρ1) E) : gE (cPart c ρ) Q E := by with_unfolding_all exact TNO.w_part h
theorem w_mt {T : String} {f : D → List D → Option Pl} (h : gE (a ρ) (fun p ρ1 => lk p ρ1 fun d0 => tyOk T d0 = true ∧ gE (ca ρ1) (fun ps ρ2 => lk p ρ2 fun d => lkA ps ρ2 fun ds => gO (f d ds) fun r => Q r ρ2) E) E) : gE (cMt T f a ca ρ) Q E := by with_unfolding_all exact TNO.w_mt h
theorem w_mutL {xs : List D} {m0 : Md} {f : D → List D → Option (D × D)} (h0 : ownAt i ρ = some (.list xs, m0)) (h : gE (ca ρ) (fun ps ρ1 => fzA ps ρ1 fun ds ρ2 => ownW i ρ2 fun d m => gP (f d ds) fun d' y => setW ρ2 i (some (d', m)) fun ρ3 => Q (.val y) ρ3) E) : gE (cMutL i f ca ρ) Q E := by with_unfolding_all exact TNO.w_mutL h0 h
theorem prW_i {n m : Int} {F : Int → Int → Prop} (h : F n m) : prW (n, m) F := by with_unfolding_all exact TNO.prW_i h
theorem w_lstRg {r : Rho → R (Int × Int)} (h : gE (r ρ) (fun ab ρ1 => prW ab fun n m => rgOk n m = true ∧ Q (.tmp (.list ((rgI n m).map .int))) ρ1) E) : gE (cLstRg r ρ) Q E := by with_unfolding_all exact TNO.w_lstRg h
theorem w_tupRg {r : Rho → R (Int × Int)} (h : gE (r ρ) (fun ab ρ1 => prW ab fun n m => rgOk n m = true ∧ Q (.val (.tuple ((rgI n m).map .int))) ρ1) E) : gE (cTupRg r ρ) Q E := by with_unfolding_all exact TNO.w_tupRg h
theorem w_rg1 {Q : Int × Int → Rho → Prop} (h : gE (a ρ) (fun p ρ1 => lk p ρ1 fun d => isI d fun n => Q (0, n) ρ1) E) : gE (cRg1 a ρ) Q E := by with_unfolding_all exact TNO.w_rg1 h
theorem w_rg2 {Q : Int × Int → Rho → Prop} (h : gE (a ρ) (fun p ρ1 => gE (b ρ1) (fun q ρ2 => lk p ρ2 fun d => isI d fun n => lk q ρ2 fun e => isI e fun m => Q (n, m) ρ2) E) E) : gE (cRg2 a b ρ) Q E := by with_unfolding_all exact TNO.w_rg2 h
theorem rg_i {n m : Int} {Q : Prop} (h : 0 ≤ n ∧ n ≤ 1000000 ∧ 0 ≤ m ∧ m ≤ 1000000) (k : Q) : rgOk n m = true ∧ Q := by with_unfolding_all exact TNO.rg_i h k
theorem w_comp {ci : CI} {g : D → Rho → Option Rho} {t : CB} {e : CE} {vs : List Nat} (h : gE (ci ρ) (fun ds ρ1 => cpW ds g t e vs ρ1 Q) E) : gE (cComp ci g t e vs ρ) Q E := by with_unfolding_all exact TNO.w_comp h
end
/-! what is walked -/
section
variable {Q : List D → Rho → Prop} {a b c : CE}
theorem w_it (h : gE (c ρ) (fun p ρ1 => fz1 p ρ1 fun d ρ2 => gO (seqD d) fun ds => Q ds ρ2) E) : gE (cIt c ρ) Q E := by with_unfolding_all exact TNO.w_it h
theorem w_enum (h : gE (c ρ) (fun p ρ1 => fz1 p ρ1 fun d ρ2 => gO (seqOf d) fun ds => Q (enumD ds) ρ2) E) : gE (cEnum c ρ) Q E := by with_unfolding_all exact TNO.w_enum h
theorem w_rev (h : gE (c ρ) (fun p ρ1 => fz1 p ρ1 fun d ρ2 => gO (seqOf d) fun ds => Q ds.reverse ρ2) E) : gE (cRev c ρ) Q E := by with_unfolding_all exact TNO.w_rev h
theorem w_zip (h : gE (a ρ) (fun p ρ1 => gE (b ρ1) (fun q ρ2 => fz1 p ρ2 fun d ρ3 => fz1 q ρ3 fun e ρ4 => gO (match d, e with | .list a, .list b => some (zipD a b) | .tuple a, .tuple b => some (zipD a b) | _, _ => none) fun ds => Q ds ρ4) E) E) : gE (cZip a b ρ) Q E := by with_unfolding_all exact TNO.w_zip h
theorem w_r1 (h : gE (a ρ) (fun p ρ1 => lk p ρ1 fun d => isI d fun n => rgFit n = true ∧ Q (rgD 0 n) ρ1) E) : gE (cRng1 a ρ) Q E := by with_unfolding_all exact TNO.w_r1 h
theorem w_r2 (h : gE (a ρ) (fun p ρ1 => gE (b ρ1) (fun q ρ2 => lk p ρ2 fun d => isI d fun n => lk q ρ2 fun e => isI e fun m => rgFit n = true ∧ rgFit m = true ∧ Q (rgD n m) ρ2) E) E) : gE (cRng2 a b ρ) Q E := by with_unfolding_all exact TNO.w_r2 h
theorem w_r3 (h : gE (a ρ) (fun p ρ1 => gE (b ρ1) (fun q ρ2 => gE (c ρ2) (fun r ρ3 => lk p ρ3 fun d => isI d fun n => lk q ρ3 fun e => isI e fun m => lk r ρ3 fun f => isI f fun k => k = -1 ∧ rgFit n = true ∧ rgFit m = true ∧ Q (rgDown n m) ρ3) E) E) E) : gE (cRng3 a b c ρ) Q E := by with_unfolding_all exact TNO.w_r3 h
theorem rf_i {n : Int} {Q : Prop} (h : -1000000 ≤ n ∧ n ≤ 1000000) (k : Q) : rgFit n = true ∧ Q := by with_unfolding_all exact TNO.rf_i h k
end
/-! statements -/
section
variable {N : Rho → Prop} {T : D → Bool → Rho → Prop} {a b : CS} {c : CE} {t : CB} {g : D → Rho → Option Rho}
theorem s_seq (h : gS (a ρ) (fun ρ1 => gS (b ρ1) N T E) T E) : gS (cSeq a b ρ) N T E := by with_unfolding_all exact TNO.s_seq h
theorem s_skip (h : N ρ) : gS (cSkip ρ) N T E := by with_unfolding_all exact TNO.s_skip h
theorem s_ret (h : gE (c ρ) (fun p ρ1 => rt p ρ1 T) E) : gS (cRet c ρ) N T E := by with_unfolding_all exact TNO.s_ret h
theorem s_retN (h : T .none false ρ) : gS (cRetN ρ) N T E := by with_unfolding_all exact TNO.s_retN h
theorem s_if (h : gE (t ρ) (fun k ρ1 => br k (gS (a ρ1) N T E) (gS (b ρ1) N T E)) E) : gS (cIf t a b ρ) N T E := by with_unfolding_all exact TNO.s_if h
theorem s_set (h : gE (c ρ) (fun p ρ1 => sto i p ρ1 N) E) : gS (cSet i c ρ) N T E := by with_unfolding_all exact TNO.s_set h
theorem s_drop (h : gE (c ρ) (fun _ ρ1 => N ρ1) E) : gS (cDrop c ρ) N T E := by with_unfolding_all exact TNO.s_drop h
theorem s_raise {x : Str} (h : E ⟨x, []⟩ ρ) : gS (cRaise x ρ) N T E := by with_unfolding_all exact TNO.s_raise h
theorem s_raiseA {x : Str} {fs : List Str} {ca : CA} (h : gE (ca ρ) (fun ps ρ1 => fzA ps ρ1 fun ds ρ2 => E ⟨x, putF fs ds []⟩ ρ2) E) : gS (cRaiseA x fs ca ρ) N T E := by with_unfolding_all exact TNO.s_raiseA h
@[irreducible] def tryW (cs : List Str) (i : Nat) (ch : CS) (x : Xc) (ρ : Rho) (N : Rho → Prop) (T : D → Bool → Rho → Prop) : Prop := TNO.tryW cs i ch x ρ N T
theorem s_try {cs : List Str} (h : gS (a ρ) N T (fun x ρ1 => tryW cs i b x ρ1 N T)) : gS (cTry cs i a b ρ) N T E := by with_unfolding_all exact TNO.s_try h
theorem tryW_i {cs : List Str} {x : Str} {fl : List (Str × D)} (h1 : cs.contains x = true) (h2 : canSet ρ i = true) (e : ρ.set i (some (exD x fl, .fz)) = ρ1) (h : gS (b ρ1) (fun ρ2 => canSet ρ2 i = true ∧ setW ρ2 i none N) T (fun _ _ => False)) : tryW cs i b ⟨x, fl⟩ ρ N T := by with_unfolding_all exact TNO.tryW_i h1 h2 e h
theorem s_for {ci : CI} (h : gE (ci ρ) (fun ds ρ1 => gS (forL g b ds ρ1) N T E) E) : gS (cFor ci g b ρ) N T E := by with_unfolding_all exact TNO.s_for h
theorem s_unp (h : gE (c ρ) (fun p ρ1 => fz1 p ρ1 fun d ρ2 => gO (g d ρ2) N) E) : gS (cUnp g c ρ) N T E := by with_unfolding_all exact TNO.s_unp h
theorem s_aug {f : Int → Int → Int} (h : lk (.slot i) ρ fun d => isI d fun n => gE (c ρ) (fun p ρ1 => lk p ρ1 fun e => isI e fun m => sto i (.val (.int (f n m))) ρ1 N) E) : gS (cAugI i f c ρ) N T E := by with_unfolding_all exact TNO.s_aug h
theorem s_par {c2 : CE} (h : gE (c ρ) (fun p ρ1 => gE (c2 ρ1) (fun q ρ2 => fz1 p ρ2 fun d ρ3 => fz1 q ρ3 fun e ρ4 => sto i (.val d) ρ4 fun ρ5 => sto j (.val e) ρ5 N) E) E) : gS (cPar i j c c2 ρ) N T E := by with_unfolding_all exact TNO.s_par h
@[irreducible] def lsD (d : D) (Q : List D → Prop) : Prop := TNO.lsD d Q
theorem lsD_l {a : List D} {Q : List D → Prop} (h : Q a) : lsD (.list a) Q := by with_unfolding_all exact TNO.lsD_l h
theorem at_rfl {a : List D} {k : Int} {e : D} {Q : D → Prop} (h : atI a k = some e) (q : Q e) : gO (atI a k) Q := by with_unfolding_all exact TNO.at_rfl h q
theorem putL_rfl {c k d c' : D} {Q : D → Prop} (h : putL c k d = some c') (q : Q c') : gO (putL c k d) Q := by with_unfolding_all exact TNO.putL_rfl h q
theorem s_augS {f : D → D → D → Option D} {g0 : Int → Int → Int} {ck ce : CE} (h : ownW i ρ fun _ _ => gE (ck ρ) (fun p ρ1 => lk p ρ1 fun d => isI d fun k => ownW i ρ1 fun c _ => lsD c fun a => gO (atI a k) fun e => isI e fun n =>
    gE (ce ρ1) (fun q ρ2 => lk q ρ2 fun e2 => isI e2 fun b => ownW i ρ2 fun c2 m2 => gO (f c2 (.int k) (.int (g0 n b))) fun c' => setW ρ2 i (some (c', m2)) N) E) E) : gS (cAugS i f g0 ck ce ρ) N T E := by with_unfolding_all exact TNO.s_augS h
/-- a walk, by what holds behind each prefix -/
theorem for_inv {α : Type} (xs : List α) (f : α → D) (I : List α → Rho → Prop) {ds : List D} (hds : ds = xs.map f) (h0 : I [] ρ) (hs : ∀ pre x post ρ, xs = pre ++ x :: post → I pre ρ → gO (g (f x) ρ) fun ρ1 => gS (b ρ1) (I (pre ++ [x])) T E) (hN : ∀ ρ, I xs ρ → N ρ) : gS (forL g b ds ρ) N T E := by with_unfolding_all exact TNO.for_inv xs f I hds h0 hs hN
end
/-! targets -/
section
variable {N : Rho → Prop}
theorem t_nm (h : sto i (.val d) ρ N) : gO (gNm i d ρ) N := by with_unfolding_all exact TNO.t_nm h
theorem t_tp {n : Nat} {g : List D → Rho → Option Rho} (hl : ds.length = n) (h : gO (g ds ρ) N) : gO (gTp n g (.tuple ds) ρ) N := by with_unfolding_all exact TNO.t_tp hl h
theorem t_tie {t : Nat × Nat} {g : List D → Rho → Option Rho} (h : gO (g [.int (t.1 : Nat), .int (t.2 : Nat)] ρ) N) : gO (gTp 2 g (tieD t) ρ) N := by with_unfolding_all exact TNO.t_tie h
theorem t_nil (h : N ρ) : gO (gsNil [] ρ) N := by with_unfolding_all exact TNO.t_nil h
theorem t_cons {g : D → Rho → Option Rho} {r : List D → Rho → Option Rho} (h : gO (g d ρ) fun ρ1 => gO (r ds ρ1) N) : gO (gsCons g r (d :: ds) ρ) N := by with_unfolding_all exact TNO.t_cons h
theorem t_put {f : D → D → D → Option D} {ck : CE} (h : ownW i ρ fun _ _ => gE (ck ρ) (fun p ρ1 => fz1 p ρ1 fun k ρ2 => ownW i ρ2 fun c m => gO (f c k d) fun c' => setW ρ2 i (some (c', m)) N) (fun _ _ => False)) : gO (gPut i f ck d ρ) N := by with_unfolding_all exact TNO.t_put h
end
/-! comprehensions -/
section
variable {Q : Pl → Rho → Prop} {g : D → Rho → Option Rho} {t : CB} {e : CE} {vs : List Nat}
theorem elW_i {x : D} {P : Option D → Rho → Prop} (h : gO (g x ρ) fun ρ1 => gE (t ρ1) (fun b ρ2 => br b (gE (e ρ2) (fun p ρ3 => fz1 p ρ3 fun d ρ4 => wpd vs ρ4 (P (some d))) (fun _ _ => False)) (wpd vs ρ2 (P none))) (fun _ _ => False)) : elW g t e vs ρ x P := by with_unfolding_all exact TNO.elW_i h
theorem cp_map {α : Type} (xs : List α) (f out : α → D) {ds : List D} (hds : ds = xs.map f) (hl : xs.length ≤ 1000000) (hw : wipeOk ρ vs = true) (ew : wipeR ρ vs = ρ1)
    (hs : ∀ x ∈ xs, elW g t e vs ρ1 (f x) fun o ρ' => o = some (out x) ∧ ρ' = ρ1) (k : Q (.tmp (.list (xs.map out))) ρ) : cpW ds g t e vs ρ Q := by with_unfolding_all exact TNO.cp_map xs f out hds hl hw ew hs k
theorem cp_filter {α : Type} (xs : List α) (f : α → D) (out : α → Option D) {ds : List D} (hds : ds = xs.map f) (hl : xs.length ≤ 1000000) (hw : wipeOk ρ vs = true) (ew : wipeR ρ vs = ρ1)
    (hs : ∀ x ∈ xs, elW g t e vs ρ1 (f x) fun o ρ' => o = out x ∧ ρ' = ρ1) (k : Q (.tmp (.list (xs.filterMap out))) ρ) : cpW ds g t e vs ρ Q := by with_unfolding_all exact TNO.cp_filter xs f out hds hl hw ew hs k
end
/-! calls -/
section
variable {Q : Pl → Rho → Prop} {M : FM} {ps : List Pl} {as : List (D × Md)} {outs : List Slot} {x : Xc}
theorem c_rv (h : ps.all noSlot = true) (ha : argsOf ps ρ = some as) (hM : (M as).rv = some (d, false)) (k : Q (.val d) ρ) : gE (callM M ps ρ) Q E := by with_unfolding_all exact TNO.c_rv h ha hM k
theorem c_rvT (h : ps.all noSlot = true) (ha : argsOf ps ρ = some as) (hM : (M as).rv = some (d, true)) (k : Q (.tmp d) ρ) : gE (callM M ps ρ) Q E := by with_unfolding_all exact TNO.c_rvT h ha hM k
theorem c_gen (ha : argsOf ps ρ = some as) (nd : noDup ps = true) (hM : M as = .ok d false outs) (hg : gb ps outs 0 ρ = ρ1) (k : Q (.val d) ρ1) : gE (callM M ps ρ) Q E := by with_unfolding_all exact TNO.c_gen ha nd hM hg k
theorem c_draw {p : Pen} {m : Int} {md : Md} (hi : ρ[i]? = some (some (p.d, md))) (hm : md = .own ∨ md = .lent) (h0 : 0 < m ∧ m < 10000000000000000000000000000000000000000000000000000000000000000000000) (k : ∀ (v : Int) (p' : Pen), 0 ≤ v ∧ v < m → setW ρ i (some (p'.d, md)) fun ρ' => Q (.val (.int v)) ρ') : gE (callM MMDraw [.slot i, .val (.int m)] ρ) Q E := by with_unfolding_all exact TNO.c_draw hi hm h0 k
end
section
theorem c_pen {Q : Pl → Rho → Prop} {c : Int} (k : ∀ p : Pen, Q (.tmp p.d) ρ) : gE (callM MMPen [.val (.int c)] ρ) Q E := by with_unfolding_all exact TNO.c_pen k
end
/-! defs -/
section
variable {n m : Nat} {c : CS} {as : List (D × Md)} {fr : Bool} {r : FR} {o : List Slot} {x : Xc}
theorem gF_mk {T : D → Bool → List Slot → Prop} {E : Xc → List Slot → Prop} (hl : as.length = n) (h : gS (c (as.map some ++ List.replicate (m - n) none)) (fun ρ => T .none false (ρ.take n)) (fun d fr ρ => T d fr (ρ.take n)) (fun x ρ => E x (ρ.take n))) : gF (mkF n m c as) T E := by with_unfolding_all exact TNO.gF_mk hl h
theorem rv_gF (h : gF r (fun d' fr' _ => d' = d ∧ fr' = fr) (fun _ _ => False)) : r.rv = some (d, fr) := by with_unfolding_all exact TNO.rv_gF h
theorem ex_gF {T : D → Bool → List Slot → Prop} (h : gF r T (fun _ _ => False)) : ∃ d fr o, r = .ok d fr o ∧ T d fr o := by with_unfolding_all exact TNO.ex_gF h
end
end
/-! what operators give, asked for from the end -/
section
variable {Q : Pl → Prop} {i j : Int} {a b : List D} {P : D → D → Prop} {x : D}
theorem ty_i {T : String} {d : D} {A : Prop} (h : tyOk T d = true) (k : A) : tyOk T d = true ∧ A := by with_unfolding_all exact TNO.ty_i h k
theorem o_add (h : Q (.val (.int (i + j)))) : gO (opAdd (.int i) (.int j)) Q := by with_unfolding_all exact TNO.o_add h
theorem o_sub (h : Q (.val (.int (i - j)))) : gO (opSub (.int i) (.int j)) Q := by with_unfolding_all exact TNO.o_sub h
theorem o_neg (h : Q (.val (.int (-i)))) : gO (opNeg (.int i)) Q := by with_unfolding_all exact TNO.o_neg h
theorem o_mul (hb : (-1000000000 < i ∧ i < 1000000000) ∨ (-1000000000 < j ∧ j < 1000000000)) (h : Q (.val (.int (i * j)))) : gO (opMul (.int i) (.int j)) Q := by with_unfolding_all exact TNO.o_mul hb h
theorem o_mod (hb : 0 < j) (h : Q (.val (.int (i % j)))) : gO (opMod (.int i) (.int j)) Q := by with_unfolding_all exact TNO.o_mod hb h
theorem o_div (hb : 0 < j ∧ j < 1000000000) (h : Q (.val (.int (i / j)))) : gO (opDiv (.int i) (.int j)) Q := by with_unfolding_all exact TNO.o_div hb h
theorem o_ltG {f : Int → Int → Bool} (h : Q (.val (.bool (f i j)))) : gO (opLtG f (.int i) (.int j)) Q := by with_unfolding_all exact TNO.o_ltG h
theorem o_eqI (h : Q (.val (.bool (decide (i = j))))) : gO (opEq (.int i) (.int j)) Q := by with_unfolding_all exact TNO.o_eqI h
theorem o_neI (h : Q (.val (.bool (!decide (i = j))))) : gO (opNe (.int i) (.int j)) Q := by with_unfolding_all exact TNO.o_neI h
theorem o_eqB {a b : Bool} (h : Q (.val (.bool (a == b)))) : gO (opEq (.bool a) (.bool b)) Q := by with_unfolding_all exact TNO.o_eqB h
theorem o_neB {a b : Bool} (h : Q (.val (.bool (!(a == b))))) : gO (opNe (.bool a) (.bool b)) Q := by with_unfolding_all exact TNO.o_neB h
theorem o_eqL {a b : List Int} (h : Q (.val (.bool (decide (a = b))))) : gO (opEq (.list (a.map .int)) (.list (b.map .int))) Q := by with_unfolding_all exact TNO.o_eqL h
theorem o_neL {a b : List Int} (h : Q (.val (.bool (!decide (a = b))))) : gO (opNe (.list (a.map .int)) (.list (b.map .int))) Q := by with_unfolding_all exact TNO.o_neL h
theorem o_eqT {a b : List Int} (h : Q (.val (.bool (decide (a = b))))) : gO (opEq (.tuple (a.map .int)) (.tuple (b.map .int))) Q := by with_unfolding_all exact TNO.o_eqT h
theorem o_neT {a b : List Int} (h : Q (.val (.bool (!decide (a = b))))) : gO (opNe (.tuple (a.map .int)) (.tuple (b.map .int))) Q := by with_unfolding_all exact TNO.o_neT h
theorem o_isN (h : Q (.val (.bool (isNonD x)))) : gO (opIsN x .none) Q := by with_unfolding_all exact TNO.o_isN h
theorem o_notN (h : Q (.val (.bool (!isNonD x)))) : gO (opNotN x .none) Q := by with_unfolding_all exact TNO.o_notN h
theorem o_tup (h : Q (.val (.bool (isTupD x)))) : gO (opIsi "tuple" x) Q := by with_unfolding_all exact TNO.o_tup h
theorem o_lst (h : Q (.val (.bool (isLstD x)))) : gO (opIsi "list" x) Q := by with_unfolding_all exact TNO.o_lst h
theorem o_bool (h : Q (.val (.bool (isBoolD x)))) : gO (opIsi "bool" x) Q := by with_unfolding_all exact TNO.o_bool h
theorem o_lenM {α : Type} {xs : List α} {f : α → D} (h : Q (.val (.int (xs.length : Nat)))) : gO (fLen [.list (xs.map f)]) Q := by with_unfolding_all exact TNO.o_lenM h
theorem o_lenMt {α : Type} {xs : List α} {f : α → D} (h : Q (.val (.int (xs.length : Nat)))) : gO (fLen [.tuple (xs.map f)]) Q := by with_unfolding_all exact TNO.o_lenMt h
theorem o_lenL (h : Q (.val (.int (a.length : Nat)))) : gO (fLen [.list a]) Q := by with_unfolding_all exact TNO.o_lenL h
theorem o_lenT (h : Q (.val (.int (a.length : Nat)))) : gO (fLen [.tuple a]) Q := by with_unfolding_all exact TNO.o_lenT h
theorem o_intI (h : Q (.val (.int i))) : gO (fInt [.int i]) Q := by with_unfolding_all exact TNO.o_intI h
theorem o_intB {b : Bool} (h : Q (.val (.int (if b = true then 1 else 0)))) : gO (fInt [.bool b]) Q := by with_unfolding_all exact TNO.o_intB h
theorem o_abs (h : Q (.val (.int (absI i)))) : gO (fAbs [.int i]) Q := by with_unfolding_all exact TNO.o_abs h
theorem o_max2 (h : Q (.val (.int (max i j)))) : gO (fMax2 [.int i, .int j]) Q := by with_unfolding_all exact TNO.o_max2 h
theorem o_min2 (h : Q (.val (.int (min i j)))) : gO (fMin2 [.int i, .int j]) Q := by with_unfolding_all exact TNO.o_min2 h
theorem o_tupL (h : Q (.val (.tuple a))) : gO (fTuple [.list a]) Q := by with_unfolding_all exact TNO.o_tupL h
theorem o_tupT (h : Q (.val (.tuple a))) : gO (fTuple [.tuple a]) Q := by with_unfolding_all exact TNO.o_tupT h
theorem o_lstL (h : Q (.tmp (.list a))) : gO (fListA [.list a]) Q := by with_unfolding_all exact TNO.o_lstL h
theorem o_lstT (h : Q (.tmp (.list a))) : gO (fListA [.tuple a]) Q := by with_unfolding_all exact TNO.o_lstT h
theorem o_sumL {ns : List Int} (h : Q (.val (.int ns.sum))) : gO (fSum [.list (ns.map .int)]) Q := by with_unfolding_all exact TNO.o_sumL h
theorem o_sumT {ns : List Int} (h : Q (.val (.int ns.sum))) : gO (fSum [.tuple (ns.map .int)]) Q := by with_unfolding_all exact TNO.o_sumT h
theorem o_sortL {ns : List Int} (hl : ns.length ≤ 16777216) (h : Q (.tmp (.list ((sortI ns).map .int)))) : gO (fSorted [.list (ns.map .int)]) Q := by with_unfolding_all exact TNO.o_sortL hl h
theorem o_sortT {ns : List Int} (hl : ns.length ≤ 16777216) (h : Q (.tmp (.list ((sortI ns).map .int)))) : gO (fSorted [.tuple (ns.map .int)]) Q := by with_unfolding_all exact TNO.o_sortT hl h
theorem o_setL {ns : List Int} (hl : ns.length ≤ 4000) (h : Q (.val (.int ((ddI ns).length : Nat)))) : gO (fLenSet (.list (ns.map .int))) Q := by with_unfolding_all exact TNO.o_setL hl h
theorem o_setT {ns : List Int} (hl : ns.length ≤ 4000) (h : Q (.val (.int ((ddI ns).length : Nat)))) : gO (fLenSet (.tuple (ns.map .int))) Q := by with_unfolding_all exact TNO.o_setT hl h
theorem o_webN {n : Nat} {ts : List (Nat × Nat)} (h : Q (.val (.int (n : Nat)))) : gO (opIx (webD n ts) (.int 0)) Q := by with_unfolding_all exact TNO.o_webN h
theorem o_webT {n : Nat} {ts : List (Nat × Nat)} (h : Q (.val (.tuple (ts.map tieD)))) : gO (opIx (webD n ts) (.int 1)) Q := by with_unfolding_all exact TNO.o_webT h
theorem o_seqL {Q : List D → Prop} (h : Q a) : gO (seqD (.list a)) Q := by with_unfolding_all exact TNO.o_seqL h
theorem o_seqT {Q : List D → Prop} (h : Q a) : gO (seqD (.tuple a)) Q := by with_unfolding_all exact TNO.o_seqT h
theorem o_sqL {Q : List D → Prop} (h : Q a) : gO (seqOf (.list a)) Q := by with_unfolding_all exact TNO.o_sqL h
theorem o_sqT {Q : List D → Prop} (h : Q a) : gO (seqOf (.tuple a)) Q := by with_unfolding_all exact TNO.o_sqT h
theorem o_allM {α : Type} {xs : List α} {f : α → Bool} (h : Q (.val (.bool (xs.all f)))) : gO (fAll [.list (xs.map fun x => .bool (f x))]) Q := by with_unfolding_all exact TNO.o_allM h
theorem o_addT (hl : a.length + b.length ≤ 16777216) (h : Q (.val (.tuple (a ++ b)))) : gO (opAdd (.tuple a) (.tuple b)) Q := by with_unfolding_all exact TNO.o_addT hl h
theorem o_addL (hl : a.length + b.length ≤ 16777216) (h : Q (.tmp (.list (a ++ b)))) : gO (opAdd (.list a) (.list b)) Q := by with_unfolding_all exact TNO.o_addL hl h
theorem o_slL {lo hi : Option Int} (h : Q (.tmp (.list (cutL a lo hi)))) : gO (opSl (.list a) lo hi) Q := by with_unfolding_all exact TNO.o_slL h
theorem o_slT {lo hi : Option Int} (h : Q (.val (.tuple (cutL a lo hi)))) : gO (opSl (.tuple a) lo hi) Q := by with_unfolding_all exact TNO.o_slT h
theorem o_app (hl : a.length < 16777216) (h : P (.list (a ++ [x])) .none) : gP (fAppend (.list a) [x]) P := by with_unfolding_all exact TNO.o_app hl h
theorem o_extL (hl : a.length + b.length ≤ 16777216) (h : P (.list (a ++ b)) .none) : gP (fExtend (.list a) [.list b]) P := by with_unfolding_all exact TNO.o_extL hl h
theorem o_extT (hl : a.length + b.length ≤ 16777216) (h : P (.list (a ++ b)) .none) : gP (fExtend (.list a) [.tuple b]) P := by with_unfolding_all exact TNO.o_extT hl h
theorem o_eqS {a b : Str} (ha : PyData.strOk a = true) (hb : PyData.strOk b = true) (h : Q (.val (.bool (a == b)))) : gO (opEq (.str a) (.str b)) Q := by with_unfolding_all exact TNO.o_eqS ha hb h
theorem o_neS {a b : Str} (ha : PyData.strOk a = true) (hb : PyData.strOk b = true) (h : Q (.val (.bool (!(a == b))))) : gO (opNe (.str a) (.str b)) Q := by with_unfolding_all exact TNO.o_neS ha hb h
theorem o_strS {a : Str} (h : Q (.val (.bool true))) : gO (opIsi "str" (.str a)) Q := by with_unfolding_all exact TNO.o_strS h
theorem o_allT {α : Type} {xs : List α} (h : Q (.val (.bool true))) : gO (fAll [.list (xs.map fun _ => PyData.bool true)]) Q := by with_unfolding_all exact TNO.o_allT h
theorem ix_rfl {x y : D} {r : Pl} (h : opIx x y = some r) (k : Q r) : gO (opIx x y) Q := by with_unfolding_all exact TNO.ix_rfl h k
theorem put_rfl {c k d c' : D} {Q : D → Prop} (h : putA c k d = some c') (q : Q c') : gO (putA c k d) Q := by with_unfolding_all exact TNO.put_rfl h q
end
theorem gO_of_mono {α : Type} {o : Option α} {P P' : α → Prop} (h : gO o P) (k : ∀ x, P x → P' x) : gO o P' := by with_unfolding_all exact TNO.gO_of_mono h k
end TN
local macro_rules | `(tactic| array_mem_dec) => `(tactic| ((with_reducible apply TN.br_f); (decide +kernel)))
local macro_rules | `(tactic| array_mem_dec) => `(tactic| ((with_reducible apply TN.br_t); (decide +kernel)))
local macro_rules | `(tactic| array_mem_dec) => `(tactic| ((with_reducible apply TN.br_f); exact rfl))
local macro_rules | `(tactic| array_mem_dec) => `(tactic| ((with_reducible apply TN.br_t); exact rfl))
local macro_rules | `(tactic| array_mem_dec) => `(tactic| ((with_reducible apply TN.put_rfl); exact rfl))
local macro_rules | `(tactic| array_mem_dec) => `(tactic| ((with_reducible apply TN.ix_rfl); exact rfl))
local macro_rules | `(tactic| array_mem_dec) => `(tactic| ((with_reducible apply TN.setB_i); (repeat (first | exact TN.back_nil | ((apply TN.back_cons); exact rfl) | exact TN.st0 | apply TN.stS))))
local macro_rules | `(tactic| array_mem_dec) => `(tactic| ((with_reducible apply TN.wpd_i); (first | exact rfl | (repeat (first | exact TN.wOk_nil | ((apply TN.wOk_cons); exact rfl; (first | exact TN.okW_none | exact TN.okW_fz | exact TN.okW_jk | assumption))))); (repeat (first | exact TN.wipe_nil | apply TN.wipe_cons | exact TN.st0 | apply TN.stS))))
local macro_rules | `(tactic| array_mem_dec) => `(tactic| (with_reducible apply TN.w_newT))
local macro_rules | `(tactic| array_mem_dec) => `(tactic| (with_reducible apply TN.w_newK))
local macro_rules | `(tactic| array_mem_dec) => `(tactic| ((with_reducible apply TN.rg_i); omega))
local macro_rules | `(tactic| array_mem_dec) => `(tactic| (with_reducible apply TN.w_rg2))
local macro_rules | `(tactic| array_mem_dec) => `(tactic| (with_reducible apply TN.w_rg1))
local macro_rules | `(tactic| array_mem_dec) => `(tactic| (with_reducible apply TN.w_tupRg))
local macro_rules | `(tactic| array_mem_dec) => `(tactic| (with_reducible apply TN.w_lstRg))
local macro_rules | `(tactic| array_mem_dec) => `(tactic| (with_reducible apply TN.prW_i))
local macro_rules | `(tactic| array_mem_dec) => `(tactic| (with_reducible apply TN.w_ch3))
local macro_rules | `(tactic| array_mem_dec) => `(tactic| (with_reducible apply TN.w_chE))
local macro_rules | `(tactic| array_mem_dec) => `(tactic| (with_reducible apply TN.w_chI))
local macro_rules | `(tactic| array_mem_dec) => `(tactic| ((with_reducible apply TN.ty_i); exact rfl))
local macro_rules | `(tactic| array_mem_dec) => `(tactic| (with_reducible apply TN.w_mt))
local macro_rules | `(tactic| array_mem_dec) => `(tactic| (with_reducible apply TN.w_part))
local macro_rules | `(tactic| array_mem_dec) => `(tactic| (with_reducible apply TN.w_noPart))
local macro_rules | `(tactic| array_mem_dec) => `(tactic| (with_reducible apply TN.w_sl))
local macro_rules | `(tactic| array_mem_dec) => `(tactic| ((with_reducible apply TN.tryW_i); (decide +kernel); (first | exact rfl | exact TN.can_ok rfl (by assumption) | exact TN.can_ok rfl TN.okS_jk | exact TN.can_ok rfl (TN.okS_md (by assumption))); (repeat (first | exact TN.st0 | apply TN.stS))))
local macro_rules | `(tactic| array_mem_dec) => `(tactic| (with_reducible apply TN.s_try))
local macro_rules | `(tactic| array_mem_dec) => `(tactic| (with_reducible apply TN.s_raiseA))
local macro_rules | `(tactic| array_mem_dec) => `(tactic| (with_reducible apply TN.s_raise))
local macro_rules | `(tactic| array_mem_dec) => `(tactic| (with_reducible apply TN.s_par))
local macro_rules | `(tactic| array_mem_dec) => `(tactic| ((with_reducible apply TN.putL_rfl); exact rfl))
local macro_rules | `(tactic| array_mem_dec) => `(tactic| ((with_reducible apply TN.at_rfl); exact rfl))
local macro_rules | `(tactic| array_mem_dec) => `(tactic| (with_reducible apply TN.lsD_l))
local macro_rules | `(tactic| array_mem_dec) => `(tactic| (with_reducible apply TN.s_augS))
local macro_rules | `(tactic| array_mem_dec) => `(tactic| (with_reducible apply TN.s_aug))
local macro_rules | `(tactic| array_mem_dec) => `(tactic| (with_reducible apply TN.s_unp))
local macro_rules | `(tactic| array_mem_dec) => `(tactic| (with_reducible apply TN.t_put))
local macro_rules | `(tactic| array_mem_dec) => `(tactic| (with_reducible apply TN.t_cons))
local macro_rules | `(tactic| array_mem_dec) => `(tactic| (with_reducible apply TN.t_nil))
local macro_rules | `(tactic| array_mem_dec) => `(tactic| (with_reducible apply TN.t_tie))
local macro_rules | `(tactic| array_mem_dec) => `(tactic| ((with_reducible apply TN.t_tp); exact rfl))
local macro_rules | `(tactic| array_mem_dec) => `(tactic| (with_reducible apply TN.t_nm))
local macro_rules | `(tactic| array_mem_dec) => `(tactic| (with_reducible apply TN.o_slT))
local macro_rules | `(tactic| array_mem_dec) => `(tactic| (with_reducible apply TN.o_slL))
local macro_rules | `(tactic| array_mem_dec) => `(tactic| ((with_reducible apply TN.o_addL); (first | omega | (simp only [List.length_append, List.length_cons, List.length_nil, List.length_map, List.length_range, List.length_replicate, List.length_reverse, List.length_take, List.length_drop, List.length_set]; omega) | (simp; omega))))
local macro_rules | `(tactic| array_mem_dec) => `(tactic| ((with_reducible apply TN.o_addT); (first | omega | (simp only [List.length_append, List.length_cons, List.length_nil, List.length_map, List.length_range, List.length_replicate, List.length_reverse, List.length_take, List.length_drop, List.length_set]; omega) | (simp; omega))))
local macro_rules | `(tactic| array_mem_dec) => `(tactic| ((with_reducible apply TN.o_neS); (decide +kernel); (decide +kernel)))
local macro_rules | `(tactic| array_mem_dec) => `(tactic| ((with_reducible apply TN.o_eqS); (decide +kernel); (decide +kernel)))
local macro_rules | `(tactic| array_mem_dec) => `(tactic| (with_reducible apply TN.o_strS))
local macro_rules | `(tactic| array_mem_dec) => `(tactic| (with_reducible apply TN.o_allM))
local macro_rules | `(tactic| array_mem_dec) => `(tactic| (with_reducible apply TN.o_allT))
local macro_rules | `(tactic| array_mem_dec) => `(tactic| (with_reducible apply TN.o_webT))
local macro_rules | `(tactic| array_mem_dec) => `(tactic| (with_reducible apply TN.o_webN))
local macro_rules | `(tactic| array_mem_dec) => `(tactic| ((with_reducible apply TN.o_setT); (first | omega | (simp only [List.length_append, List.length_cons, List.length_nil, List.length_map, List.length_range, List.length_replicate, List.length_reverse, List.length_take, List.length_drop, List.length_set]; omega) | (simp; omega))))
local macro_rules | `(tactic| array_mem_dec) => `(tactic| ((with_reducible apply TN.o_setL); (first | omega | (simp only [List.length_append, List.length_cons, List.length_nil, List.length_map, List.length_range, List.length_replicate, List.length_reverse, List.length_take, List.length_drop, List.length_set]; omega) | (simp; omega))))
local macro_rules | `(tactic| array_mem_dec) => `(tactic| ((with_reducible apply TN.o_sortT); (first | omega | (simp only [List.length_append, List.length_cons, List.length_nil, List.length_map, List.length_range, List.length_replicate, List.length_reverse, List.length_take, List.length_drop, List.length_set]; omega) | (simp; omega))))
local macro_rules | `(tactic| array_mem_dec) => `(tactic| ((with_reducible apply TN.o_sortL); (first | omega | (simp only [List.length_append, List.length_cons, List.length_nil, List.length_map, List.length_range, List.length_replicate, List.length_reverse, List.length_take, List.length_drop, List.length_set]; omega) | (simp; omega))))
local macro_rules | `(tactic| array_mem_dec) => `(tactic| (with_reducible apply TN.o_sumT))
local macro_rules | `(tactic| array_mem_dec) => `(tactic| (with_reducible apply TN.o_sumL))
local macro_rules | `(tactic| array_mem_dec) => `(tactic| (with_reducible apply TN.o_lstT))
local macro_rules | `(tactic| array_mem_dec) => `(tactic| (with_reducible apply TN.o_lstL))
local macro_rules | `(tactic| array_mem_dec) => `(tactic| (with_reducible apply TN.o_tupT))
local macro_rules | `(tactic| array_mem_dec) => `(tactic| (with_reducible apply TN.o_tupL))
local macro_rules | `(tactic| array_mem_dec) => `(tactic| (with_reducible apply TN.o_min2))
local macro_rules | `(tactic| array_mem_dec) => `(tactic| (with_reducible apply TN.o_max2))
local macro_rules | `(tactic| array_mem_dec) => `(tactic| (with_reducible apply TN.o_abs))
local macro_rules | `(tactic| array_mem_dec) => `(tactic| (with_reducible apply TN.o_intB))
local macro_rules | `(tactic| array_mem_dec) => `(tactic| (with_reducible apply TN.o_intI))
local macro_rules | `(tactic| array_mem_dec) => `(tactic| (with_reducible apply TN.o_lenT))
local macro_rules | `(tactic| array_mem_dec) => `(tactic| (with_reducible apply TN.o_lenL))
local macro_rules | `(tactic| array_mem_dec) => `(tactic| (with_reducible apply TN.o_lenMt))
local macro_rules | `(tactic| array_mem_dec) => `(tactic| (with_reducible apply TN.o_lenM))
local macro_rules | `(tactic| array_mem_dec) => `(tactic| (with_reducible apply TN.o_bool))
local macro_rules | `(tactic| array_mem_dec) => `(tactic| (with_reducible apply TN.o_lst))
local macro_rules | `(tactic| array_mem_dec) => `(tactic| (with_reducible apply TN.o_tup))
local macro_rules | `(tactic| array_mem_dec) => `(tactic| (with_reducible apply TN.o_notN))
local macro_rules | `(tactic| array_mem_dec) => `(tactic| (with_reducible apply TN.o_isN))
local macro_rules | `(tactic| array_mem_dec) => `(tactic| (with_reducible apply TN.o_neT))
local macro_rules | `(tactic| array_mem_dec) => `(tactic| (with_reducible apply TN.o_eqT))
local macro_rules | `(tactic| array_mem_dec) => `(tactic| (with_reducible apply TN.o_neL))
local macro_rules | `(tactic| array_mem_dec) => `(tactic| (with_reducible apply TN.o_eqL))
local macro_rules | `(tactic| array_mem_dec) => `(tactic| (with_reducible apply TN.o_neB))
local macro_rules | `(tactic| array_mem_dec) => `(tactic| (with_reducible apply TN.o_eqB))
local macro_rules | `(tactic| array_mem_dec) => `(tactic| (with_reducible apply TN.o_neI))
local macro_rules | `(tactic| array_mem_dec) => `(tactic| (with_reducible apply TN.o_eqI))
local macro_rules | `(tactic| array_mem_dec) => `(tactic| (with_reducible apply TN.o_ltG))
local macro_rules | `(tactic| array_mem_dec) => `(tactic| ((with_reducible apply TN.o_div); omega))
local macro_rules | `(tactic| array_mem_dec) => `(tactic| ((with_reducible apply TN.o_mod); omega))
local macro_rules | `(tactic| array_mem_dec) => `(tactic| ((with_reducible apply TN.o_mul); omega))
local macro_rules | `(tactic| array_mem_dec) => `(tactic| (with_reducible apply TN.o_neg))
local macro_rules | `(tactic| array_mem_dec) => `(tactic| (with_reducible apply TN.o_sub))
local macro_rules | `(tactic| array_mem_dec) => `(tactic| (with_reducible apply TN.o_add))
local macro_rules | `(tactic| array_mem_dec) => `(tactic| ((with_reducible apply TN.o_extT); (first | omega | (simp only [List.length_append, List.length_cons, List.length_nil, List.length_map, List.length_range, List.length_replicate, List.length_reverse, List.length_take, List.length_drop, List.length_set]; omega) | (simp; omega))))
local macro_rules | `(tactic| array_mem_dec) => `(tactic| ((with_reducible apply TN.o_extL); (first | omega | (simp only [List.length_append, List.length_cons, List.length_nil, List.length_map, List.length_range, List.length_replicate, List.length_reverse, List.length_take, List.length_drop, List.length_set]; omega) | (simp; omega))))
local macro_rules | `(tactic| array_mem_dec) => `(tactic| ((with_reducible apply TN.o_app); (first | omega | (simp only [List.length_append, List.length_cons, List.length_nil, List.length_map, List.length_range, List.length_replicate, List.length_reverse, List.length_take, List.length_drop, List.length_set]; omega) | (simp; omega))))
local macro_rules | `(tactic| array_mem_dec) => `(tactic| ((with_reducible apply TN.setW_i); (repeat (first | exact TN.st0 | apply TN.stS))))
local macro_rules | `(tactic| array_mem_dec) => `(tactic| ((with_reducible apply TN.ownW_lent); exact rfl))
local macro_rules | `(tactic| array_mem_dec) => `(tactic| ((with_reducible apply TN.ownW_own); exact rfl))
local macro_rules | `(tactic| array_mem_dec) => `(tactic| ((with_reducible apply TN.w_mutL); exact rfl))
local macro_rules | `(tactic| array_mem_dec) => `(tactic| (with_reducible apply TN.o_sqT))
local macro_rules | `(tactic| array_mem_dec) => `(tactic| (with_reducible apply TN.o_sqL))
local macro_rules | `(tactic| array_mem_dec) => `(tactic| (with_reducible apply TN.o_seqT))
local macro_rules | `(tactic| array_mem_dec) => `(tactic| (with_reducible apply TN.o_seqL))
local macro_rules | `(tactic| array_mem_dec) => `(tactic| ((with_reducible apply TN.gP_of); (with_reducible assumption)))
local macro_rules | `(tactic| array_mem_dec) => `(tactic| ((with_reducible apply TN.gO_of); (with_reducible assumption)))
local macro_rules | `(tactic| array_mem_dec) => `(tactic| (with_reducible apply TN.elW_i))
local macro_rules | `(tactic| array_mem_dec) => `(tactic| (with_reducible apply TN.w_comp))
local macro_rules | `(tactic| array_mem_dec) => `(tactic| (with_reducible apply TN.w_zip))
local macro_rules | `(tactic| array_mem_dec) => `(tactic| (with_reducible apply TN.w_rev))
local macro_rules | `(tactic| array_mem_dec) => `(tactic| (with_reducible apply TN.w_enum))
local macro_rules | `(tactic| array_mem_dec) => `(tactic| ((with_reducible apply TN.rf_i); omega))
local macro_rules | `(tactic| array_mem_dec) => `(tactic| (with_reducible apply TN.w_r3))
local macro_rules | `(tactic| array_mem_dec) => `(tactic| (with_reducible apply TN.w_r2))
local macro_rules | `(tactic| array_mem_dec) => `(tactic| (with_reducible apply TN.w_r1))
local macro_rules | `(tactic| array_mem_dec) => `(tactic| (with_reducible apply TN.w_it))
local macro_rules | `(tactic| array_mem_dec) => `(tactic| (with_reducible apply TN.s_for))
local macro_rules | `(tactic| array_mem_dec) => `(tactic| (with_reducible apply TN.s_retN))
local macro_rules | `(tactic| array_mem_dec) => `(tactic| (with_reducible apply TN.s_skip))
local macro_rules | `(tactic| array_mem_dec) => `(tactic| (with_reducible apply TN.s_drop))
local macro_rules | `(tactic| array_mem_dec) => `(tactic| ((with_reducible apply TN.rt_lent); exact rfl; (repeat (first | exact TN.st0 | apply TN.stS))))
local macro_rules | `(tactic| array_mem_dec) => `(tactic| ((with_reducible apply TN.rt_own); exact rfl; (repeat (first | exact TN.st0 | apply TN.stS))))
local macro_rules | `(tactic| array_mem_dec) => `(tactic| (with_reducible apply TN.rt_tmp))
local macro_rules | `(tactic| array_mem_dec) => `(tactic| (with_reducible apply TN.rt_val))
local macro_rules | `(tactic| array_mem_dec) => `(tactic| (with_reducible apply TN.s_ret))
local macro_rules | `(tactic| array_mem_dec) => `(tactic| (with_reducible apply TN.fzA_cons))
local macro_rules | `(tactic| array_mem_dec) => `(tactic| (with_reducible apply TN.fzA_nil))
local macro_rules | `(tactic| array_mem_dec) => `(tactic| ((with_reducible apply TN.fz1_lent); exact rfl; (repeat (first | exact TN.st0 | apply TN.stS))))
local macro_rules | `(tactic| array_mem_dec) => `(tactic| ((with_reducible apply TN.fz1_own); exact rfl; (repeat (first | exact TN.st0 | apply TN.stS))))
local macro_rules | `(tactic| array_mem_dec) => `(tactic| (with_reducible apply TN.fz1_tmp))
local macro_rules | `(tactic| array_mem_dec) => `(tactic| (with_reducible apply TN.fz1_val))
local macro_rules | `(tactic| array_mem_dec) => `(tactic| ((with_reducible apply TN.lenW_i); (repeat (first | exact TN.len_nil | apply TN.len_cons))))
local macro_rules | `(tactic| array_mem_dec) => `(tactic| (with_reducible apply TN.w_lst))
local macro_rules | `(tactic| array_mem_dec) => `(tactic| (with_reducible apply TN.w_tup))
local macro_rules | `(tactic| array_mem_dec) => `(tactic| (with_reducible apply TN.w_ite))
local macro_rules | `(tactic| array_mem_dec) => `(tactic| (with_reducible apply TN.w_notV))
local macro_rules | `(tactic| array_mem_dec) => `(tactic| (with_reducible apply TN.w_orV))
local macro_rules | `(tactic| array_mem_dec) => `(tactic| (with_reducible apply TN.w_andV))
local macro_rules | `(tactic| array_mem_dec) => `(tactic| (with_reducible apply TN.w_true))
local macro_rules | `(tactic| array_mem_dec) => `(tactic| (with_reducible apply TN.w_not))
local macro_rules | `(tactic| array_mem_dec) => `(tactic| (with_reducible apply TN.w_or))
local macro_rules | `(tactic| array_mem_dec) => `(tactic| (with_reducible apply TN.w_and))
local macro_rules | `(tactic| array_mem_dec) => `(tactic| (with_reducible apply TN.w_fn))
local macro_rules | `(tactic| array_mem_dec) => `(tactic| (with_reducible apply TN.w_un))
local macro_rules | `(tactic| array_mem_dec) => `(tactic| ((with_reducible apply TN.c_draw); exact rfl; (first | exact Or.inl rfl | exact Or.inr rfl); omega))
local macro_rules | `(tactic| array_mem_dec) => `(tactic| (with_reducible apply TN.c_pen))
local macro_rules | `(tactic| array_mem_dec) => `(tactic| ((with_reducible apply TN.br_p); (with_reducible exact rfl)))
local macro_rules | `(tactic| array_mem_dec) => `(tactic| ((with_reducible apply TN.br_n); omega))
local macro_rules | `(tactic| array_mem_dec) => `(tactic| ((with_reducible apply TN.br_p); omega))
local macro_rules | `(tactic| array_mem_dec) => `(tactic| ((with_reducible apply TN.br_f); (with_reducible assumption)))
local macro_rules | `(tactic| array_mem_dec) => `(tactic| ((with_reducible apply TN.br_t); (with_reducible assumption)))
local macro_rules | `(tactic| array_mem_dec) => `(tactic| (with_reducible apply TN.br_or))
local macro_rules | `(tactic| array_mem_dec) => `(tactic| (with_reducible apply TN.br_and))
local macro_rules | `(tactic| array_mem_dec) => `(tactic| ((with_reducible apply TN.br_sT); (decide +kernel)))
local macro_rules | `(tactic| array_mem_dec) => `(tactic| ((with_reducible apply TN.br_sF); (decide +kernel)))
local macro_rules | `(tactic| array_mem_dec) => `(tactic| (with_reducible apply TN.br_not))
local macro_rules | `(tactic| array_mem_dec) => `(tactic| (with_reducible apply TN.br_false))
local macro_rules | `(tactic| array_mem_dec) => `(tactic| (with_reducible apply TN.br_true))
local macro_rules | `(tactic| array_mem_dec) => `(tactic| ((with_reducible apply TN.sto_lent); exact rfl; (repeat (first | exact TN.st0 | apply TN.stS)); (first | exact rfl | exact TN.can_ok rfl (by assumption) | exact TN.can_ok rfl TN.okS_jk | exact TN.can_ok rfl (TN.okS_md (by assumption))); (repeat (first | exact TN.st0 | apply TN.stS))))
local macro_rules | `(tactic| array_mem_dec) => `(tactic| ((with_reducible apply TN.sto_own); exact rfl; (repeat (first | exact TN.st0 | apply TN.stS)); (first | exact rfl | exact TN.can_ok rfl (by assumption) | exact TN.can_ok rfl TN.okS_jk | exact TN.can_ok rfl (TN.okS_md (by assumption))); (repeat (first | exact TN.st0 | apply TN.stS))))
local macro_rules | `(tactic| array_mem_dec) => `(tactic| ((with_reducible apply TN.sto_tmp); (first | exact rfl | exact TN.can_ok rfl (by assumption) | exact TN.can_ok rfl TN.okS_jk | exact TN.can_ok rfl (TN.okS_md (by assumption))); (repeat (first | exact TN.st0 | apply TN.stS))))
local macro_rules | `(tactic| array_mem_dec) => `(tactic| ((with_reducible apply TN.sto_val); (first | exact rfl | exact TN.can_ok rfl (by assumption) | exact TN.can_ok rfl TN.okS_jk | exact TN.can_ok rfl (TN.okS_md (by assumption))); (repeat (first | exact TN.st0 | apply TN.stS))))
local macro_rules | `(tactic| array_mem_dec) => `(tactic| (with_reducible apply TN.s_set))
local macro_rules | `(tactic| array_mem_dec) => `(tactic| (with_reducible apply TN.s_if))
local macro_rules | `(tactic| array_mem_dec) => `(tactic| (with_reducible apply TN.w_tst))
local macro_rules | `(tactic| array_mem_dec) => `(tactic| (with_reducible apply TN.isI_i))
local macro_rules | `(tactic| array_mem_dec) => `(tactic| (with_reducible apply TN.isB_b))
local macro_rules | `(tactic| array_mem_dec) => `(tactic| (with_reducible apply TN.lkA_cons))
local macro_rules | `(tactic| array_mem_dec) => `(tactic| (with_reducible apply TN.lkA_nil))
local macro_rules | `(tactic| array_mem_dec) => `(tactic| (with_reducible apply TN.lk_tmp))
local macro_rules | `(tactic| array_mem_dec) => `(tactic| ((with_reducible apply TN.lk_slot); exact rfl))
local macro_rules | `(tactic| array_mem_dec) => `(tactic| (with_reducible apply TN.lk_val))
local macro_rules | `(tactic| array_mem_dec) => `(tactic| (with_reducible apply TN.w_call))
local macro_rules | `(tactic| array_mem_dec) => `(tactic| (with_reducible apply TN.w_nil))
local macro_rules | `(tactic| array_mem_dec) => `(tactic| (with_reducible apply TN.w_cons))
local macro_rules | `(tactic| array_mem_dec) => `(tactic| ((with_reducible apply TN.lk_any); (with_reducible assumption); exact rfl))
local macro_rules | `(tactic| array_mem_dec) => `(tactic| ((with_reducible apply TN.w_any2); exact rfl; (with_reducible assumption); intro _ _))
local macro_rules | `(tactic| array_mem_dec) => `(tactic| ((with_reducible apply TN.w_any); exact rfl; (with_reducible assumption); intro _ _))
local macro_rules | `(tactic| array_mem_dec) => `(tactic| ((with_reducible apply TN.w_lz); exact rfl))
local macro_rules | `(tactic| array_mem_dec) => `(tactic| ((with_reducible apply TN.w_lent); exact rfl))
local macro_rules | `(tactic| array_mem_dec) => `(tactic| ((with_reducible apply TN.w_own); exact rfl))
local macro_rules | `(tactic| array_mem_dec) => `(tactic| (with_reducible apply TN.w_lit))
local macro_rules | `(tactic| array_mem_dec) => `(tactic| ((with_reducible apply TN.w_fz); exact rfl))
local macro_rules | `(tactic| array_mem_dec) => `(tactic| (with_reducible apply TN.w_bin))
local macro_rules | `(tactic| array_mem_dec) => `(tactic| (with_reducible apply TN.s_seq))
namespace TN
open PySem PySem.Spec PyProof.Rows L2
section
variable {ρ ρ1 : Rho} {N : Rho → Prop} {T : D → Bool → Rho → Prop} {E : Xc → Rho → Prop} {g : D → Rho → Option Rho} {b : CS}
theorem for_rng {e : Int} (n : Nat) (I : Nat → Rho → Prop) (he : e = (n : Nat)) (h0 : I 0 ρ) (hs : ∀ k ρ, k < n → I k ρ → gO (g (.int (k : Nat)) ρ) fun ρ1 => gS (b ρ1) (I (k + 1)) T E) (hN : ∀ ρ, I n ρ → N ρ) : gS (forL g b (rgD 0 e) ρ) N T E := by
  subst he
  refine for_inv (List.range n) (fun (k : Nat) => .int (k : Nat)) (fun pre ρ => I pre.length ρ) (rgD_nat n) h0 (fun pre x post ρ hE hI => ?_) fun ρ h => hN ρ (by rw [List.length_range] at h; exact h)
  obtain ⟨rfl, hx⟩ := rng_at hE
  refine gO_of_mono (hs pre.length ρ hx hI) fun ρ1 h => ?_
  rw [List.length_append]; exact h
theorem for_rng2 {a e : Int} (lo n : Nat) (I : Nat → Rho → Prop) (ha : a = (lo : Nat)) (he : e = ((lo + n : Nat) : Int)) (h0 : I 0 ρ) (hs : ∀ k ρ, k < n → I k ρ → gO (g (.int ((lo + k : Nat) : Int)) ρ) fun ρ1 => gS (b ρ1) (I (k + 1)) T E) (hN : ∀ ρ, I n ρ → N ρ) : gS (forL g b (rgD a e) ρ) N T E := by
  subst ha he
  refine for_inv (List.range n) (fun (k : Nat) => .int ((lo + k : Nat) : Int)) (fun pre ρ => I pre.length ρ) ?_ h0 (fun pre x post ρ hE hI => ?_) fun ρ h => hN ρ (by rw [List.length_range] at h; exact h)
  · unfold rgD
    rw [show (((lo + n : Nat) : Int) - (lo : Nat)).toNat = n by omega]
    refine List.map_congr_left fun k _ => ?_
    rw [Int.natCast_add]
  · obtain ⟨rfl, hx⟩ := rng_at hE
    refine gO_of_mono (hs pre.length ρ hx hI) fun ρ1 h => ?_
    rw [List.length_append]; exact h
theorem cp_rng {Q : Pl → Rho → Prop} {t : CB} {c : CE} {vs : List Nat} {e : Int} (n : Nat) (out : Nat → D) (he : e = (n : Nat)) (hl : n ≤ 1000000) (hw : wipeOk ρ vs = true) (ew : wipeR ρ vs = ρ1)
    (hs : ∀ k, k < n → elW g t c vs ρ1 (.int (k : Nat)) fun o ρ' => o = some (out k) ∧ ρ' = ρ1) (k : Q (.tmp (.list ((List.range n).map out))) ρ) : cpW (rgD 0 e) g t c vs ρ Q := by
  subst he
  exact cp_map (List.range n) (fun (k : Nat) => .int (k : Nat)) out (rgD_nat n) (by simpa using hl) hw ew (fun x hx => hs x (List.mem_range.mp hx)) k
end
theorem rgD_off (lo n : Nat) {a e : Int} (ha : a = (lo : Nat)) (he : e = ((lo + n : Nat) : Int)) : rgD a e = (List.range n).map fun (k : Nat) => PyData.int ((lo + k : Nat) : Int) := by
  subst ha he
  unfold rgD
  rw [show (((lo + n : Nat) : Int) - (lo : Nat)).toNat = n by omega]
  refine List.map_congr_left fun k _ => ?_
  rw [Int.natCast_add]
theorem enum_zip {α : Type} (xs : List α) (f : α → D) : enumD (xs.map f) = xs.zipIdx.map fun p => PyData.tuple [.int (p.2 : Nat), f p.1] := by
  unfold enumD
  apply List.ext_getElem?
  intro i
  rw [List.getElem?_mapIdx, List.getElem?_map, List.getElem?_map, List.getElem?_zipIdx]
  cases xs[i]? <;> simp
theorem cp_enumF {α : Type} {ρ ρ1 : Rho} {g : D → Rho → Option Rho} {Q : Pl → Rho → Prop} {t : CB} {c : CE} {vs : List Nat} (xs : List α) (f : α → D) (out : Nat → α → Option D) {ds : List D} (hds : ds = xs.map f) (hl : xs.length ≤ 1000000) (hw : wipeOk ρ vs = true) (ew : wipeR ρ vs = ρ1)
    (hs : ∀ i x, xs[i]? = some x → elW g t c vs ρ1 (.tuple [.int (i : Nat), f x]) fun o ρ' => o = out i x ∧ ρ' = ρ1) (k : Q (.tmp (.list (xs.zipIdx.filterMap fun p => out p.2 p.1))) ρ) : cpW (enumD ds) g t c vs ρ Q := by
  subst hds
  refine cp_filter xs.zipIdx (fun p => PyData.tuple [.int (p.2 : Nat), f p.1]) (fun p => out p.2 p.1) (enum_zip xs f) (by simpa using hl) hw ew (fun p hp => ?_) k
  exact hs p.2 p.1 (List.mem_zipIdx_iff_getElem?.mp hp)
end TN
namespace TN
open PySem PySem.Spec PyProof.Rows L2
section
variable (legs : List Nat)
end
end TN
namespace TN
open PySem PySem.Spec PyProof.Rows L2
/-! parted numberings of trees, plainly -/
structure Ptd (n : Nat) (ts : List (Nat × Nat)) (ns : List Int) (lo : Int) : Prop where
  ln : ns.length = n
  nn : n = ts.length + 1
  t1 : 1 ≤ ts.length
  pm : ns.Perm (rgI 0 ((ts.length : Int) + 1))
  sp : (steps ns ts).Perm (rgI 1 ((ts.length : Int) + 1))
  cut : ∀ t ∈ ts, min (ns.getD t.1 0) (ns.getD t.2 0) ≤ lo ∧ lo < max (ns.getD t.1 0) (ns.getD t.2 0)
  lt : ∀ t ∈ ts, t.1 < n ∧ t.2 < n
theorem rg_mem0 {a b x : Int} : x ∈ rgI a b ↔ a ≤ x ∧ x < b := by
  unfold rgI
  rw [List.mem_map]
  constructor
  · rintro ⟨i, hi, rfl⟩
    have := List.mem_range.mp hi
    omega
  · rintro ⟨h1, h2⟩
    exact ⟨(x - a).toNat, List.mem_range.mpr (by omega), by omega⟩
theorem rg_len (a b : Int) : (rgI a b).length = (b - a).toNat := by simp [rgI]
section
variable {n : Nat} {ts : List (Nat × Nat)} {ns : List Int} {lo : Int}
theorem Ptd.rng (p : Ptd n ts ns lo) : ∀ x ∈ ns, 0 ≤ x ∧ x ≤ ts.length := fun x hx => by
  have := rg_mem0.mp (p.pm.mem_iff.mp hx); omega
theorem Ptd.lo0 (p : Ptd n ts ns lo) : 0 ≤ lo ∧ lo < ts.length := by
  have ht1 := p.t1
  obtain ⟨t, ht⟩ : ∃ t, t ∈ ts := List.exists_mem_of_ne_nil _ fun z => by rw [z] at ht1; simp at ht1
  have := p.cut t ht
  have hlt := p.lt t ht
  have hln := p.ln
  have h1 := p.rng _ (getD_memI (ns := ns) (i := t.1) (by omega))
  have h2 := p.rng _ (getD_memI (ns := ns) (i := t.2) (by omega))
  omega
/-- the tie of step 1 -/
theorem Ptd.one (p : Ptd n ts ns lo) : (∃ t ∈ ts, absI (ns.getD t.1 0 - ns.getD t.2 0) = 1) ∧ ∀ t ∈ ts, absI (ns.getD t.1 0 - ns.getD t.2 0) = 1 → min (ns.getD t.1 0) (ns.getD t.2 0) = lo := by
  refine ⟨?_, fun t ht h => ?_⟩
  · have h1 := p.t1
    have : (1 : Int) ∈ steps ns ts := p.sp.mem_iff.mpr (rg_mem0.mpr (by omega))
    unfold steps at this
    obtain ⟨t, ht, e⟩ := List.mem_map.mp this
    exact ⟨t, ht, e⟩
  · have := p.cut t ht
    unfold absI at h
    split at h <;> omega
/-! the round numbering by it -/
def rfI (c : Nat) (lo x : Int) : Int := if x > lo then lo + 1 + c - x else x
def rndI (c : Nat) (lo : Int) (ns : List Int) : List Int := ns.map fun x => rfI c lo x % c
theorem Ptd.rf (p : Ptd n ts ns lo) : (ns.map (rfI ts.length lo)).Perm (rgI 0 ((ts.length : Int) + 1)) := by
  have hlo := p.lo0
  have hln := p.ln
  refine perm_of ?_ ?_ (by rw [List.length_map, rg_len, hln, p.nn]; omega)
  · unfold List.Nodup
    rw [List.pairwise_map]
    refine List.Pairwise.imp_of_mem (fun {a b} ha hb hab h => ?_) (p.pm.nodup_iff.mpr (rg_nodup _ _))
    have h2 := p.rng a ha
    have h3 := p.rng b hb
    unfold rfI at h
    split at h <;> split at h <;> omega
  · intro x hx
    obtain ⟨y, hy, rfl⟩ := List.mem_map.mp hx
    have := p.rng y hy
    refine rg_mem0.mpr ?_
    unfold rfI
    split <;> omega
theorem mod_lt {c : Nat} {x : Int} (hc : 1 ≤ c) : 0 ≤ x % (c : Int) ∧ x % (c : Int) < c := ⟨Int.emod_nonneg _ (by omega), Int.emod_lt_of_pos _ (by omega)⟩
theorem Ptd.dd (p : Ptd n ts ns lo) : (ddI (rndI ts.length lo ns)).length + 1 = n := by
  have h1 := p.t1
  have hp : (ddI (rndI ts.length lo ns)).Perm (rgI 0 (ts.length : Int)) := by
    refine (List.perm_ext_iff_of_nodup (ddI_nodup _) (rg_nodup _ _)).mpr fun x => ?_
    rw [ddI_mem, rg_mem0]
    unfold rndI
    rw [List.mem_map]
    constructor
    · rintro ⟨y, hy, rfl⟩
      exact mod_lt h1
    · rintro ⟨h0, h2⟩
      have : x ∈ ns.map (rfI ts.length lo) := p.rf.mem_iff.mpr (rg_mem0.mpr (by omega))
      obtain ⟨y, hy, e⟩ := List.mem_map.mp this
      exact ⟨y, hy, by rw [e]; exact Int.emod_eq_of_lt h0 h2⟩
  rw [hp.length_eq, rg_len, p.nn]; omega
theorem Ptd.sums (p : Ptd n ts ns lo) : (sumsR ts (rndI ts.length lo ns)).Perm (rgI 0 (ts.length : Int)) := by
  have h1 := p.t1
  have hln := p.ln
  have hlo := p.lo0
  have e : sumsR ts (rndI ts.length lo ns) = (steps ns ts).map fun s => (lo + 1 + (ts.length : Int) - s) % (ts.length : Int) := by
    unfold sumsR steps
    rw [List.map_map]
    refine List.map_congr_left fun t ht => ?_
    have hlt := p.lt t ht
    have hc := p.cut t ht
    unfold rndI
    simp only [Function.comp]
    rw [getD_map (by omega), getD_map (by omega), ← Int.add_emod]
    congr 1
    unfold rfI absI
    (repeat' split) <;> omega
  rw [e]
  refine perm_of ?_ ?_ (by rw [List.length_map, steps_len, rg_len]; omega)
  · unfold List.Nodup
    rw [List.pairwise_map]
    refine List.Pairwise.imp_of_mem (fun {a b} ha hb hab h => hab ?_) (p.sp.nodup_iff.mpr (rg_nodup _ _))
    have ha' := rg_mem0.mp (p.sp.mem_iff.mp ha)
    have hb' := rg_mem0.mp (p.sp.mem_iff.mp hb)
    have hd := Int.emod_emod_of_dvd
    have h2 : ((ts.length : Int)) ∣ (lo + 1 + (ts.length : Int) - a) - (lo + 1 + (ts.length : Int) - b) := Int.dvd_of_emod_eq_zero (Int.emod_eq_emod_iff_emod_sub_eq_zero.mp h)
    obtain ⟨k, hk⟩ := h2
    have h3 : b - a = (ts.length : Int) * k := by omega
    have hk0 : k = 0 := by
      rcases Int.lt_trichotomy k 0 with q | q | q
      · have : (ts.length : Int) * k ≤ (ts.length : Int) * (-1) := Int.mul_le_mul_of_nonneg_left (by omega) (by omega)
        omega
      · exact q
      · have : (ts.length : Int) * 1 ≤ (ts.length : Int) * k := Int.mul_le_mul_of_nonneg_left (by omega) (by omega)
        omega
    rw [hk0] at h3
    omega
  · intro x hx
    obtain ⟨y, hy, rfl⟩ := List.mem_map.mp hx
    exact rg_mem0.mpr (mod_lt h1)
end
/-! spines -/
section
variable (legs : List Nat)
end
end TN
namespace TN
open PySem PySem.Spec PyProof.Rows L2
end TN
namespace TN
open PySem PySem.Spec PyProof.Rows L2
/-! ### displays of dicts -/
section
variable {X : Cx}
def pairsOf : List D → Option (List (Key × D))
  | [] => some []
  | k :: v :: r => match ckOf k, pairsOf r with
    | some k, some ps => some ((k, v) :: ps)
    | _, _ => none
  | _ => none
def mrgD (es : List (D × D)) (ps : List (Key × D)) : List (D × D) := ps.foldl (fun es p => putKD es p.1 p.2) es
section
variable {K : PySem.W.Frag} {L : L2.St} {B G H : Hp} {σ : L2.St} {ρ : Rho} {p : Addr} {o : HO}
end
end
end TN
namespace TN
open PySem PySem.Spec PyProof.Rows L2
/-! ### d.get(k, z) -/
def cGet2 (co ck cz : CE) : CE := fun ρ => (co ρ).bind fun p ρ1 => match look p ρ1 with
  | some (.dict es0) => if isE es0 = true then .bad else (ck ρ1).bind fun q ρ2 => (cz ρ2).bind fun r ρ3 => (match look p ρ3, look q ρ3, r with
    | some (.dict es), some k, .val dz => (match dGet es k with
      | some o => .ok (.val (o.getD dz)) ρ3
      | none => .bad)
    | _, _, _ => .bad)
  | _ => .bad
section
variable {X : Cx}
theorem isD_of {K : PySem.W.Frag} {G H : Hp} {v : V} {es : List (D × D)} (s : Same G H) (hE : isE es = false) (h : Vw K G H v (.dict es)) : ∃ a, v = .ref a ∧ IsDX H a := by
  rcases h.dict s hE with ⟨a, kvs, rfl, e1, f⟩ | ⟨a, kvs, es', rfl, e1, f, rfl⟩
  · exact ⟨a, rfl, .inl (.inl ⟨kvs, .inl e1⟩)⟩
  · exact ⟨a, rfl, .inr ⟨kvs, e1⟩⟩
theorem sx_get2 {o e f : Expr} {co ck cz : CE} {apos cpos : Pos} (hu : X.A.units + 1 < cLine) (ho : SX X o co) (he : SX X e ck) (hf : SX X f cz) (m : M2 X o "get" apos e f cpos) : SX X (.Call (.Attribute o "get" apos) [e, f] [] cpos) (cGet2 co ck cz) := fun W tk =>
  PEimp (pe_dget2X hu (ho W tk) (he W tk) (hf W tk) m) (by
    rintro σ H Q ⟨L, ρ, G, B, rel, h⟩
    refine ⟨L, ρ, G, B, rel, (Got.bind h).mono ?_⟩
    rintro x H1 ⟨p, ρ1, G1, _, rel1, _, fx1, h1⟩
    cases e1 : look p ρ1 with
    | none => simp only [e1] at h1; exact h1.elim
    | some d0 =>
      cases d0 with
      | dict es0 =>
        simp only [e1] at h1
        by_cases hE : isE es0 = true
        · rw [if_pos hE] at h1; exact h1.elim
        · rw [if_neg hE] at h1
          obtain ⟨a, rfl, hD⟩ := isD_of rel1.sub (by simpa using hE) (fx1.look rel1 e1)
          refine ⟨a, rfl, hD, L, ρ1, G1, B, rel1, (Got.bind h1).mono ?_⟩
          rintro y H2 ⟨q, ρ2, G2, _, rel2, ext2, fx2, h2⟩
          refine ⟨L, ρ2, G2, B, rel2, (Got.bind h2).mono ?_⟩
          rintro z H3 ⟨r, ρ3, G3, _, rel3, ext3, fx3, h3⟩
          cases e2 : look p ρ3 with
          | none => simp only [e2] at h3; exact h3.elim
          | some d =>
            cases e3 : look q ρ3 with
            | none =>
              simp only [e2, e3] at h3
              cases d <;> exact h3.elim
            | some k =>
              cases d with
              | dict es =>
                cases r with
                | val dz =>
                  simp only [e2, e3] at h3
                  cases e4 : dGet es k with
                  | none => simp only [e4] at h3; exact h3.elim
                  | some ov =>
                    simp only [e4] at h3
                    obtain ⟨a', w, q1, q2, q3⟩ := ((fx1.mono (ext2.same.trans ext3.same)).look rel3 e2).get rel3.sub ((fx2.mono ext3.same).look rel3 e3) e4
                    cases q1
                    refine ⟨w, q2, ?_⟩
                    rcases q3 with ⟨rfl, rfl⟩ | ⟨w', d', rfl, rfl, fz⟩
                    · exact h3 z H3 G3 rel3 .refl fx3
                    · exact h3 w' H3 G3 rel3 .refl fz
                | slot i => simp only [e2, e3] at h3; exact h3.elim
                | tmp t => simp only [e2, e3] at h3; exact h3.elim
              | _ => simp only [e2, e3] at h3; exact h3.elim
      | _ => simp only [e1] at h1; exact h1.elim)
end
/-! ### constants of the module: dicts of texts and ints -/
structure KC (K : PySem.W.Frag) (w : World) (mg : Str → Option Value) (x : Str) (es : List (Str × Int)) : Prop where
  glo : mg x = some (.ref (He.ga K x))
  kd : ∃ arr n, KDict K w (He.ga K x) arr n
  there : ∀ q ∈ es, ∃ u, PySem.W.nsIn K (He.ga K x) q.1 = some (some u) ∧ L2.RelV (.int q.2) u
  no : ∀ z, (∀ q ∈ es, q.1 ≠ z) → PySem.W.nsIn K (He.ga K x) z = some none
section
variable {X : Cx} {x : Str} {es : List (Str × Int)} {e : Expr} {c : CE} {pos p : Pos}
end
/-! ### the head, with these -/
end TN
namespace TN
open PySem PySem.Spec PyProof.Rows L2
/-! ### ties in order -/
theorem dLe_tie (a b : Nat × Nat) : dLe (tieD a) (tieD b) = leT a b := by
  unfold dLe tieD PySem.W.dataLe PySem.W.sortLe leT
  simp only [PySem.W.keyToks, PySem.W.keyToksAll, id, cond_false, PyProof.Rows.lexLt, PyProof.Rows.itemLt, List.append_nil, List.cons_append, List.nil_append]
  rw [Bool.eq_iff_iff]
  simp
  omega
theorem leT_trans (a b c : Nat × Nat) (h1 : leT a b = true) (h2 : leT b c = true) : leT a c = true := by
  simp [leT] at *; omega
theorem leT_total (a b : Nat × Nat) : (leT a b || leT b a) = true := by
  simp [leT]; omega
theorem sortT_le (F : List (Nat × Nat)) : sortT F = F.mergeSort leT := by
  unfold sortT
  congr 1
  funext a b
  exact dLe_tie a b
theorem sortT_pw (F : List (Nat × Nat)) : (sortT F).Pairwise fun a b => leT a b = true := by
  rw [sortT_le]; exact List.pairwise_mergeSort leT_trans leT_total F
/-! ### kinds -/
inductive Kd where
  | spine (legs : List Nat) | ring (n : Nat) | sides (a b : Nat) | full (n : Nat) | wheel (n : Nat) | fan (n : Nat)
end TN
namespace TN
open PySem PySem.Spec PyProof.Rows L2
end TN
namespace TN
open PySem PySem.Spec PyProof.Rows L2
end TN
namespace TN
open PySem PySem.Spec PyProof.Rows L2
/-! ### defs that hand out new lists in a tuple, from their end -/
/-! ### the law's webs of kinds -/
section
variable {C : Nat → Nat → Prop} [∀ a b, Decidable (C a b)]
end
end TN
namespace TN
open PySem PySem.Spec PyProof.Rows L2
/-! ### equal webs -/
/-! ### f(g(..), x) where g's list is lent -/
end TN
namespace TN
open PySem PySem.Spec PyProof.Rows L2
/-! ### steps numberings of kinds, plainly -/
/-! ### the package's runs -/
end TN
namespace TN
open PySem PySem.Spec PyProof.Rows L2
/-! steps_for, parted_for and the law's look at a steps numbering, as runs -/
end TN
namespace TN
open PySem PySem.Spec PyProof.Rows L2
/-! kinds compared, plainly -/
end TN
namespace TNO
open TN
open PySem PySem.Spec PyProof.Rows L2
/-! comprehensions over an own list, told from their end -/
end TNO
namespace TN
open PySem PySem.Spec PyProof.Rows L2
end TN
namespace TN
open PySem PySem.Spec PyProof.Rows L2
/-! ### copies that go round, plainly -/
structure RP (C : Nat) (P : List (Int × Int)) : Prop where
  rg : ∀ p ∈ P, (0 ≤ p.1 ∧ p.1 ≤ C) ∧ (0 ≤ p.2 ∧ p.2 ≤ C) ∧ p.1 ≠ p.2
  df : P.Pairwise fun p q => absI (p.1 - p.2) ≠ absI (q.1 - q.2)
section
variable {C M t t' : Nat} {p q : Int × Int}
end
/-! ### .. and as runs -/
end TN
namespace TNO
open TN
open PySem PySem.Spec PyProof.Rows L2
/-! i in range(..), told from its end -/
end TNO
namespace TN
open PySem PySem.Spec PyProof.Rows L2
end TN
namespace TN
open PySem PySem.Spec PyProof.Rows L2
theorem gF_mkE {n m : Nat} {c : CS} {as : List (D × Md)} {ρ0 : Rho} {T : D → Bool → List Slot → Prop} {E : Xc → List Slot → Prop} (hl : as.length = n) (e : as.map some ++ List.replicate (m - n) none = ρ0) (h : gS (c ρ0) (fun ρ => T .none false (ρ.take n)) (fun d fr ρ => T d fr (ρ.take n)) (fun x ρ => E x (ρ.take n))) : gF (mkF n m c as) T E := by
  subst e
  exact gF_mk hl h
end TN
namespace TN
open PySem PySem.Spec PyProof.Rows L2
/-! the sums of round numberings, turned and so often -/
section
variable {n : Nat} {ts : List (Nat × Nat)} {ns : List Int}
structure RdN (n : Nat) (ts : List (Nat × Nat)) (ns : List Int) : Prop where
  pos : 0 < ts.length
  len : ns.length = n
  rng : ∀ x ∈ ns, 0 ≤ x ∧ x < (ts.length : Int)
  un : (ddI ns).length + (if treeB n ts = true then 1 else 0) = n
  su : (sumsR ts ns).Perm (rgI 0 (ts.length : Int))
end
/-! ### bars of round numberings, plainly -/
section
variable {n : Nat} {ts : List (Nat × Nat)} {ns : List Int}
end
end TN
namespace TN
open PySem PySem.Spec PyProof.Rows L2
/-! ### how many pieces there are, plainly -/
end TN
namespace TN
open PySem PySem.Spec PyProof.Rows L2
/-! ### trees have two sides; pieces hold all places, once; plainly -/
end TN
namespace TN
open PySem PySem.Spec PyProof.Rows L2
/-! ### kinds by their words, plainly -/
end TN
namespace TN
open PySem PySem.Spec PyProof.Rows L2
/-! ### s.upper() -/
end TN
namespace TN
open PySem PySem.Spec PyProof.Rows L2
/-! ### kind_form of a thing of any form -/
end TN
namespace TN
open PySem PySem.Spec PyProof.Rows L2
/-! ### kinds by form, too great ones too -/
end TN
namespace TN
open PySem PySem.Spec PyProof.Rows L2
/-! ### kind_good of a thing of any form -/
structure Thg (t : D) : Prop where
  wd : ∀ w rest, t = .tuple (.str w :: rest) → PyData.strOk w = true ∧ rest.length ≤ 1000 ∧ ∀ ls, .tuple ls ∈ rest → ls.length ≤ 1000
  ln : ∀ ls, t = .tuple ls → ls.length ≤ 1000
  nd : ∀ b rest, t ≠ .tuple (.dict b :: rest)
end TN
namespace TNO
open TN
open PySem PySem.Spec PyProof.Rows L2
/-! d.get(k, z), told from its end -/
theorem w_get2 {co ck cz : CE} {ρ : Rho} {Q : Pl → Rho → Prop} {E : Xc → Rho → Prop} (h : gE (co ρ) (fun p ρ1 => lk p ρ1 fun d0 => ∃ es0, d0 = .dict es0 ∧ isE es0 = false ∧ gE (ck ρ1) (fun q ρ2 => gE (cz ρ2) (fun r ρ3 => lk p ρ3 fun d => ∃ es, d = .dict es ∧ lk q ρ3 fun k => ∃ dz, r = .val dz ∧ gO (dGet es k) fun o => Q (.val (o.getD dz)) ρ3) E) E) E) : gE (cGet2 co ck cz ρ) Q E := by
  unfold cGet2
  refine gE_bind (gE_mono h fun p ρ1 h1 => ?_)
  obtain ⟨d0, hd0, es0, hes, he, h2⟩ := gO_ex h1
  rw [hd0]
  subst hes
  simp only [he]
  rw [if_neg (by simp)]
  refine gE_bind (gE_mono h2 fun q ρ2 h3 => gE_bind (gE_mono h3 fun r ρ3 h4 => ?_))
  obtain ⟨d, hd, es, hds, h5⟩ := gO_ex h4
  obtain ⟨k, hk, dz, hr, h6⟩ := gO_ex h5
  obtain ⟨o, ho, h7⟩ := gO_ex h6
  subst hds hr
  simp only [hd, hk, ho]
  exact h7
end TNO
namespace TN
open PySem PySem.Spec PyProof.Rows L2
theorem w_get2 {co ck cz : CE} {ρ : Rho} {Q : Pl → Rho → Prop} {E : Xc → Rho → Prop} (h : gE (co ρ) (fun p ρ1 => lk p ρ1 fun d0 => ∃ es0, d0 = .dict es0 ∧ isE es0 = false ∧ gE (ck ρ1) (fun q ρ2 => gE (cz ρ2) (fun r ρ3 => lk p ρ3 fun d => ∃ es, d = .dict es ∧ lk q ρ3 fun k => ∃ dz, r = .val dz ∧ gO (dGet es k) fun o => Q (.val (o.getD dz)) ρ3) E) E) E) : gE (cGet2 co ck cz ρ) Q E := by with_unfolding_all exact TNO.w_get2 h
end TN
/-! ### enumerate(reversed(xs)) -/
namespace PySem
open Sem (wp)
open AutoSeq1 (wpAny_loadPart')
section
variable {prog : Program} {w : World} {A : Around} {E : Value → Shared → Prop} {s : Shared}
end
section
variable {prog : Program} {w : World} {A : Around} {E : Value → Shared → Prop} {s : Shared}
end
end PySem
namespace TN
open PySem PySem.Spec PyProof.Rows L2
section
variable {X : Cx} {e : Expr} {c : CE} {p pos : Pos}
end
end TN
namespace TNO
open PySem PySem.Spec PyProof.Rows L2 TN
end TNO
namespace TN
open PySem PySem.Spec PyProof.Rows L2
end TN
/-! ### zip of a list with a tuple, of a tuple with a list (printed by mkL90.py) -/
namespace PySem
open Sem (wp)
abbrev zipLTH1 (h : Heap) (l1 : Addr) : Heap := h.push { cls := .type "list_iterator", data := .fields #[.ref l1, .int 0 0] }
abbrev zipLTH2 (h : Heap) (l1 l2 : Addr) : Heap := (zipLTH1 h l1).push { cls := .type "tuple_iterator", data := .fields #[.ref l2, .int 0 0] }
abbrev zipLTH3 (h : Heap) (l1 l2 : Addr) : Heap := (zipLTH2 h l1 l2).push { cls := .type "tuple", data := .seq #[.ref h.objs.size, .ref (zipLTH1 h l1).objs.size] }
abbrev zipLTH4 (h : Heap) (l1 l2 : Addr) : Heap := (zipLTH3 h l1 l2).push { cls := .type "tuple", data := .seq #[.none, .none] }
abbrev zipLTH5 (h : Heap) (l1 l2 : Addr) : Heap := (zipLTH4 h l1 l2).push { cls := .type "zip", data := .fields #[.none, .bool false, .bool false, .ref (zipLTH2 h l1 l2).objs.size, .ref (zipLTH3 h l1 l2).objs.size] }
theorem meets_zipLT_new (l1 l2 : Addr) (xs ys : Array Value) :
    Meets (Builtin.«zip.__new__» ⟨[.type "zip", .ref l1, .ref l2], []⟩) (fun _ R s => s.heap.IsList l1 xs ∧ s.heap.IsTuple l2 ys ∧
      R (.ok (.ret (.ref (zipLTH4 s.heap l1 l2).objs.size))) { s with heap := zipLTH5 s.heap l1 l2 }) :=
  .of_wp fun prog w A R s h => by
    obtain ⟨hp, g, d, tk, os⟩ := s; obtain ⟨hl1, hl2, h⟩ := h
    have hsub := sub_zip
    have hL1 : Heap.IsList (Shared.heap ⟨hp, g, d, tk, os⟩) l1 xs := hl1
    have hL2 : Heap.IsTuple (Shared.heap ⟨hp.push { cls := .type "list_iterator", data := .fields #[.ref l1, .int 0 0] }, g, d, tk, os⟩) l2 ys := Heap.IsTuple.push hl2 _
    wp_walk using wpAny_pyIter_list hL1, wpAny_pyIter_tuple hL2
    exact ⟨_, rfl, h⟩
section
variable {prog : Program} {w : World} {A : Around} {E : Value → Shared → Prop} {s : Shared}
theorem call_zipLT {l1 l2 : Addr} {xs ys : Array Value} {Q : Value → Shared → Prop} (hl1 : s.heap.IsList l1 xs) (hl2 : s.heap.IsTuple l2 ys)
    (h : ∀ h', IsZip h' (s.heap.objs.size + 4) (s.heap.objs.size + 2) (s.heap.objs.size + 3) .none → IsPair h' (s.heap.objs.size + 2) (.ref s.heap.objs.size) (.ref (s.heap.objs.size + 1)) →
      IsPair h' (s.heap.objs.size + 3) .none .none → h'.IsListIter s.heap.objs.size l1 0 → h'.IsTupleIter (s.heap.objs.size + 1) l2 0 → h'.objs.size = s.heap.objs.size + 5 →
      (∀ c o, s.heap.get? c = some o → h'.get? c = some o) → Q (.ref (s.heap.objs.size + 4)) { s with heap := h' }) :
    wpAny (model prog w) A (call (.type "zip") [.ref l1, .ref l2]) Q E s := by
  refine callType_new F.called_zip (by decide) (F.typeCall_zip_2 _ _) (F.newCall_zip_2 _ _) (fun obj => F.args_object_init_3 obj _ _) F.entry_zip_new
    (meets_zipLT_new l1 l2 xs ys) ⟨hl1, hl2, ?_⟩
  have z1 : (zipLTH1 s.heap l1).objs.size = s.heap.objs.size + 1 := Heap.size_push ..
  have z2 : (zipLTH2 s.heap l1 l2).objs.size = s.heap.objs.size + 2 := by rw [Heap.size_push, z1]
  have z3 : (zipLTH3 s.heap l1 l2).objs.size = s.heap.objs.size + 3 := by rw [Heap.size_push, z2]
  have z4 : (zipLTH4 s.heap l1 l2).objs.size = s.heap.objs.size + 4 := by rw [Heap.size_push, z3]
  have z5 : (zipLTH5 s.heap l1 l2).objs.size = s.heap.objs.size + 5 := by rw [Heap.size_push, z4]
  have g5 : (zipLTH5 s.heap l1 l2).get? (zipLTH4 s.heap l1 l2).objs.size = some _ := Heap.get?_push_size _ rfl
  have g4 : (zipLTH5 s.heap l1 l2).get? (zipLTH3 s.heap l1 l2).objs.size = some _ := Heap.get?_push_of_some _ (Heap.get?_push_size _ rfl)
  have g3 : (zipLTH5 s.heap l1 l2).get? (zipLTH2 s.heap l1 l2).objs.size = some _ := Heap.get?_push_of_some _ (Heap.get?_push_of_some _ (Heap.get?_push_size _ rfl))
  have g2 : (zipLTH5 s.heap l1 l2).get? (zipLTH1 s.heap l1).objs.size = some _ := Heap.get?_push_of_some _ (Heap.get?_push_of_some _ (Heap.get?_push_of_some _ (Heap.get?_push_size _ rfl)))
  have g1 : (zipLTH5 s.heap l1 l2).get? s.heap.objs.size = some _ := Heap.get?_push_of_some _ (Heap.get?_push_of_some _ (Heap.get?_push_of_some _ (Heap.get?_push_of_some _ (Heap.get?_push_size _ rfl))))
  show _ ∧ _
  rw [z2, z3, z4] at g5
  rw [z1, z2] at g3
  rw [z3] at g4
  rw [z1] at g2
  rw [z4]
  exact ⟨⟨_, g5, rfl⟩, h _ g5 g3 g4 ⟨_, g1, rfl, rfl⟩ ⟨_, g2, rfl, rfl⟩ z5 fun c o x =>
    Heap.get?_push_of_some _ (Heap.get?_push_of_some _ (Heap.get?_push_of_some _ (Heap.get?_push_of_some _ (Heap.get?_push_of_some _ x))))⟩
end
end PySem
namespace PySem
open Sem (wp)
abbrev zipTLH1 (h : Heap) (l1 : Addr) : Heap := h.push { cls := .type "tuple_iterator", data := .fields #[.ref l1, .int 0 0] }
abbrev zipTLH2 (h : Heap) (l1 l2 : Addr) : Heap := (zipTLH1 h l1).push { cls := .type "list_iterator", data := .fields #[.ref l2, .int 0 0] }
abbrev zipTLH3 (h : Heap) (l1 l2 : Addr) : Heap := (zipTLH2 h l1 l2).push { cls := .type "tuple", data := .seq #[.ref h.objs.size, .ref (zipTLH1 h l1).objs.size] }
abbrev zipTLH4 (h : Heap) (l1 l2 : Addr) : Heap := (zipTLH3 h l1 l2).push { cls := .type "tuple", data := .seq #[.none, .none] }
abbrev zipTLH5 (h : Heap) (l1 l2 : Addr) : Heap := (zipTLH4 h l1 l2).push { cls := .type "zip", data := .fields #[.none, .bool false, .bool false, .ref (zipTLH2 h l1 l2).objs.size, .ref (zipTLH3 h l1 l2).objs.size] }
theorem meets_zipTL_new (l1 l2 : Addr) (xs ys : Array Value) :
    Meets (Builtin.«zip.__new__» ⟨[.type "zip", .ref l1, .ref l2], []⟩) (fun _ R s => s.heap.IsTuple l1 xs ∧ s.heap.IsList l2 ys ∧
      R (.ok (.ret (.ref (zipTLH4 s.heap l1 l2).objs.size))) { s with heap := zipTLH5 s.heap l1 l2 }) :=
  .of_wp fun prog w A R s h => by
    obtain ⟨hp, g, d, tk, os⟩ := s; obtain ⟨hl1, hl2, h⟩ := h
    have hsub := sub_zip
    have hL1 : Heap.IsTuple (Shared.heap ⟨hp, g, d, tk, os⟩) l1 xs := hl1
    have hL2 : Heap.IsList (Shared.heap ⟨hp.push { cls := .type "tuple_iterator", data := .fields #[.ref l1, .int 0 0] }, g, d, tk, os⟩) l2 ys := Heap.IsList.push hl2 _
    wp_walk using wpAny_pyIter_tuple hL1, wpAny_pyIter_list hL2
    exact ⟨_, rfl, h⟩
section
variable {prog : Program} {w : World} {A : Around} {E : Value → Shared → Prop} {s : Shared}
theorem call_zipTL {l1 l2 : Addr} {xs ys : Array Value} {Q : Value → Shared → Prop} (hl1 : s.heap.IsTuple l1 xs) (hl2 : s.heap.IsList l2 ys)
    (h : ∀ h', IsZip h' (s.heap.objs.size + 4) (s.heap.objs.size + 2) (s.heap.objs.size + 3) .none → IsPair h' (s.heap.objs.size + 2) (.ref s.heap.objs.size) (.ref (s.heap.objs.size + 1)) →
      IsPair h' (s.heap.objs.size + 3) .none .none → h'.IsTupleIter s.heap.objs.size l1 0 → h'.IsListIter (s.heap.objs.size + 1) l2 0 → h'.objs.size = s.heap.objs.size + 5 →
      (∀ c o, s.heap.get? c = some o → h'.get? c = some o) → Q (.ref (s.heap.objs.size + 4)) { s with heap := h' }) :
    wpAny (model prog w) A (call (.type "zip") [.ref l1, .ref l2]) Q E s := by
  refine callType_new F.called_zip (by decide) (F.typeCall_zip_2 _ _) (F.newCall_zip_2 _ _) (fun obj => F.args_object_init_3 obj _ _) F.entry_zip_new
    (meets_zipTL_new l1 l2 xs ys) ⟨hl1, hl2, ?_⟩
  have z1 : (zipTLH1 s.heap l1).objs.size = s.heap.objs.size + 1 := Heap.size_push ..
  have z2 : (zipTLH2 s.heap l1 l2).objs.size = s.heap.objs.size + 2 := by rw [Heap.size_push, z1]
  have z3 : (zipTLH3 s.heap l1 l2).objs.size = s.heap.objs.size + 3 := by rw [Heap.size_push, z2]
  have z4 : (zipTLH4 s.heap l1 l2).objs.size = s.heap.objs.size + 4 := by rw [Heap.size_push, z3]
  have z5 : (zipTLH5 s.heap l1 l2).objs.size = s.heap.objs.size + 5 := by rw [Heap.size_push, z4]
  have g5 : (zipTLH5 s.heap l1 l2).get? (zipTLH4 s.heap l1 l2).objs.size = some _ := Heap.get?_push_size _ rfl
  have g4 : (zipTLH5 s.heap l1 l2).get? (zipTLH3 s.heap l1 l2).objs.size = some _ := Heap.get?_push_of_some _ (Heap.get?_push_size _ rfl)
  have g3 : (zipTLH5 s.heap l1 l2).get? (zipTLH2 s.heap l1 l2).objs.size = some _ := Heap.get?_push_of_some _ (Heap.get?_push_of_some _ (Heap.get?_push_size _ rfl))
  have g2 : (zipTLH5 s.heap l1 l2).get? (zipTLH1 s.heap l1).objs.size = some _ := Heap.get?_push_of_some _ (Heap.get?_push_of_some _ (Heap.get?_push_of_some _ (Heap.get?_push_size _ rfl)))
  have g1 : (zipTLH5 s.heap l1 l2).get? s.heap.objs.size = some _ := Heap.get?_push_of_some _ (Heap.get?_push_of_some _ (Heap.get?_push_of_some _ (Heap.get?_push_of_some _ (Heap.get?_push_size _ rfl))))
  show _ ∧ _
  rw [z2, z3, z4] at g5
  rw [z1, z2] at g3
  rw [z3] at g4
  rw [z1] at g2
  rw [z4]
  exact ⟨⟨_, g5, rfl⟩, h _ g5 g3 g4 ⟨_, g1, rfl, rfl⟩ ⟨_, g2, rfl, rfl⟩ z5 fun c o x =>
    Heap.get?_push_of_some _ (Heap.get?_push_of_some _ (Heap.get?_push_of_some _ (Heap.get?_push_of_some _ (Heap.get?_push_of_some _ x))))⟩
end
end PySem
namespace TN
open PySem PySem.Spec PyProof.Rows L2
/-- a list at a, a list at b, item by item in new pairs -/
def ItzLL (K : PySem.W.Frag) (a b : Addr) (n1 n2 : Nat) : It :=
  ⟨fun i H => ∃ (xs ys : List V) (x y : V), SqL K H a xs ∧ SqL K H b ys ∧ xs.length = n1 ∧ ys.length = n2 ∧ xs[i]? = some x ∧ ys[i]? = some y,
    fun i H v H' => ∃ T x y, ∃ o : Obj, v = .ref T ∧ H T = none ∧ H' = upd H T (.frz o (.tup [x, y])) ∧ o.dict = none ∧ (∀ xs, SqL K H a xs → xs[i]? = some x) ∧ ∀ ys, SqL K H b ys → ys[i]? = some y,
    fun i H => ∃ xs ys : List V, SqL K H a xs ∧ SqL K H b ys ∧ xs.length = n1 ∧ ys.length = n2 ∧ (n1 ≤ i ∨ n2 ≤ i)⟩
theorem turn_zipLL {P : Program} {w : World} {K : PySem.W.Frag} {elts : List Expr} {kk : Nat} {tpos : Pos} {a b z TI TO i1 i2 : Addr} {n1 n2 : Nat} (D : ZipApart z TI TO i1 i2 a b) :
    Turn P w K (.Tuple elts kk tpos) (ItzLL K a b n1 n2) [z, TI, TO, i1, i2] z (fun i h => IsZip h z TI TO .none ∧ IsPair h TI (.ref i1) (.ref i2) ∧ (∃ x y, IsPair h TO x y) ∧ h.IsListIter i1 a i ∧ h.IsListIter i2 b i ∧ i ≤ n1 ∧ i ≤ n2) where
  mem := by simp
  obj := fun i h st c hc => by
    obtain ⟨hz, hTI, ⟨x, y, hTO⟩, ⟨o1, e1, _, d1⟩, ⟨o2, e2, _, d2⟩, _⟩ := st
    have e' : c = z ∨ c = TI ∨ c = TO ∨ c = i1 ∨ c = i2 := by simpa using hc
    rcases e' with q | q | q | q | q
    · rw [q]; exact ⟨_, hz, fun v q => nomatch q⟩
    · rw [q]; exact ⟨_, hTI, fun v q => nomatch q⟩
    · rw [q]; exact ⟨_, hTO, fun v q => nomatch q⟩
    · rw [q]; exact ⟨o1, e1, fun v q => by rw [d1] at q; cases q⟩
    · rw [q]; exact ⟨o2, e2, fun v q => by rw [d2] at q; cases q⟩
  keep := fun i h h' st k => by
    obtain ⟨hz, hTI, ⟨x, y, hTO⟩, h1, h2, h3⟩ := st
    exact ⟨k z (by simp) _ hz, k TI (by simp) _ hTI, ⟨x, y, k TO (by simp) _ hTO⟩, h1.at fun o q => k i1 (by simp) o q, h2.at fun o q => k i2 (by simp) o q, h3⟩
  item := by
    intro X hP hw hK hc i pins s σ H E I hf st hg
    subst hP hw hK
    obtain ⟨hz, hTI, ⟨x0, y0, hTO⟩, h1, h2, _⟩ := st
    obtain ⟨xs, ys, x, y, hqx, hqy, hn1, hn2, hx, hy⟩ := hg
    obtain ⟨its, rv, p, _⟩ := I.list hqx
    obtain ⟨its2, rv2, p2, _⟩ := I.list hqy
    have pl1 : s.heap.IsList a its.toArray := p.isList
    have pl2 : s.heap.IsList b its2.toArray := p2.isList
    have sz1 : its.toArray.size = n1 := by rw [List.size_toArray, ← rv.length]; exact hn1
    have sz2 : its2.toArray.size = n2 := by rw [List.size_toArray, ← rv2.length]; exact hn2
    have S : ZipSep2 z TI TO i1 i2 [i1, a] [i2, b] := ⟨D.TIz, D.TOz, D.TITO, D.TIi1, by simp, by simp [D.i1z.symm, D.l1z.symm], by simp [D.TOi1, D.l1TO.symm], D.TIi2, by simp, by simp [D.i2z.symm, D.l2z.symm], by simp [D.TOi2, D.l2TO.symm], by simp [D.i12, D.l2i1.symm], by simp [D.i12.symm, D.l1i2.symm]⟩
    obtain ⟨u, hu, ru⟩ := rv.get hx
    obtain ⟨u2, hu2, ru2⟩ := rv2.get hy
    have hzl : z < s.heap.objs.size := Heap.lt_size hz
    have lt1 : i < n1 := by rw [← hn1]; exact (List.getElem?_eq_some_iff.mp hx).1
    have lt2 : i < n2 := by rw [← hn2]; exact (List.getElem?_eq_some_iff.mp hy).1
    refine wpAny_pyNext_zipD2_item S (Draws.list (A := X.A.in1) (I.ok.hd hc) i1 a D.l1i1 its.toArray) (Draws.list (A := X.A.in1) (I.ok.hd hc) i2 b D.l2i2 its2.toArray) hz hTI hTO ⟨h1, pl1⟩ ⟨h2, pl2⟩ (by rw [sz1]; exact lt1) (by rw [sz2]; exact lt2) fun x1 x2 h' tk hx1 hx2 z' TO' st1' st2' hT hsz hk => ?_
    have ex1 : x1 = u := by
      have e1 : its[i]? = some x1 := by simpa using hx1
      rw [hu] at e1; cases e1; rfl
    have ex2 : x2 = u2 := by
      have e1 : its2[i]? = some x2 := by simpa using hx2
      rw [hu2] at e1; cases e1; rfl
    subst ex1 ex2
    refine ⟨_, rfl, wpAny_letOwnedTupleGo_zip (s := { s with heap := h', toks := tk }) z' fun h'' z'' sb => ?_⟩
    have hT2 : h''.get? s.heap.objs.size = some { cls := .type "tuple", data := .seq #[x1, x2] } := (sb.2 _ (Nat.ne_of_gt hzl)).trans hT
    have new : ObjOk X.prog X.w (upd H s.heap.objs.size (.frz { cls := .type "tuple", data := .seq #[x1, x2] } (.tup [x, y]))) h'' s.heap.objs.size (.frz { cls := .type "tuple", data := .seq #[x1, x2] } (.tup [x, y])) :=
      ⟨hT2, by show 2 ≤ sizeLine; decide, [x1, x2], .cons ru (.cons ru2 .nil), ⟨_, hT2, rfl, _, rfl⟩⟩
    have I1 : Inv X pins σ (upd H s.heap.objs.size (.frz { cls := .type "tuple", data := .seq #[x1, x2] } (.tup [x, y]))) { s with heap := h'', toks := tk } :=
      I.turnedNew (ch := [z, TI, TO, i1, i2]) (fun c o hb q => (sb.2 c (fun q' => hb (by simp [q']))).trans (hk c o (fun q' => hb (by simp [q'])) (fun q' => hb (by simp [q'])) (fun q' => hb (by simp [q'])) (fun q' => hb (by simp [q'])) q)) hf (Nat.le_refl _) new
    refine ⟨.ref s.heap.objs.size, _, I1, rfl, ⟨_, x, y, _, rfl, I.hok.fresh (Nat.le_refl _), rfl, rfl, fun l hl => by rw [I.list_inj hl hqx]; exact hx, fun l hl => by rw [I.list_inj hl hqy]; exact hy⟩, ⟨z'', ?_, ⟨x1, x2, ?_⟩, ?_, ?_, lt1, lt2⟩, fun c hcm => ?_⟩
    · exact (sb.2 _ D.TIz).trans (hk _ _ D.TIz D.TITO D.TIi1 D.TIi2 hTI)
    · exact (sb.2 _ D.TOz).trans TO'
    · exact st1'.1.at fun o q => (sb.2 _ D.i1z).trans q
    · exact st2'.1.at fun o q => (sb.2 _ D.i2z).trans q
    · have hlt : c < s.heap.objs.size := by
        have e' : c = z ∨ c = TI ∨ c = TO ∨ c = i1 ∨ c = i2 := by simpa using hcm
        rcases e' with q | q | q | q | q
        · rw [q]; exact hzl
        · rw [q]; exact Heap.lt_size hTI
        · rw [q]; exact Heap.lt_size hTO
        · rw [q]; obtain ⟨_, e1, _⟩ := h1; exact Heap.lt_size e1
        · rw [q]; obtain ⟨_, e2, _⟩ := h2; exact Heap.lt_size e2
      rw [upd_ne (Nat.ne_of_lt hlt)]
      exact (hf c hcm).1
  done := by
    intro X hP hw hK hc i pins s σ H E I hf st hg
    subst hP hw hK
    obtain ⟨hz, hTI, ⟨x0, y0, hTO⟩, h1, h2, le1, le2⟩ := st
    obtain ⟨xs, ys, hqx, hqy, hn1, hn2, hend⟩ := hg
    obtain ⟨its, rv, p, _⟩ := I.list hqx
    obtain ⟨its2, rv2, p2, _⟩ := I.list hqy
    have pl1 : s.heap.IsList a its.toArray := p.isList
    have pl2 : s.heap.IsList b its2.toArray := p2.isList
    have sz1 : its.toArray.size = n1 := by rw [List.size_toArray, ← rv.length]; exact hn1
    have sz2 : its2.toArray.size = n2 := by rw [List.size_toArray, ← rv2.length]; exact hn2
    have S : ZipSep2 z TI TO i1 i2 [i1, a] [i2, b] := ⟨D.TIz, D.TOz, D.TITO, D.TIi1, by simp, by simp [D.i1z.symm, D.l1z.symm], by simp [D.TOi1, D.l1TO.symm], D.TIi2, by simp, by simp [D.i2z.symm, D.l2z.symm], by simp [D.TOi2, D.l2TO.symm], by simp [D.i12, D.l2i1.symm], by simp [D.i12.symm, D.l1i2.symm]⟩
    exact wpAny_pyNext_zipD2_end S (Draws.list (A := X.A.in1) (I.ok.hd hc) i1 a D.l1i1 its.toArray) (Draws.list (A := X.A.in1) (I.ok.hd hc) i2 b D.l2i2 its2.toArray) hz hTI hTO ⟨h1, pl1⟩ ⟨h2, pl2⟩ (by rw [sz1]; exact le1) (by rw [sz2]; exact le2) (by rw [sz1, sz2]; omega) fun h' tk hk => ⟨rfl, I.turnedL (t' := tk) (ch := [z, TI, TO, i1, i2]) (fun c o hb q =>
      hk c o (fun q' => hb (by simp [q'])) (fun q' => hb (by simp [q'])) (fun q' => hb (by simp [q'])) (fun q' => hb (by simp [q'])) q) hf⟩
  self := fun A i s Q E st h => wpAny_pyIter_zip st.1 h
theorem itok_zipLL {K : PySem.W.Frag} {G : Hp} {a b : Addr} {xs ys : List V} {ds es : List D} (h : ∀ {H2 : Hp}, Same G H2 → SqL K H2 a xs) (f : FzA K G xs ds) (h' : ∀ {H2 : Hp}, Same G H2 → SqL K H2 b ys) (f' : FzA K G ys es) : ItOk K G (zipD ds es) (ItzLL K a b xs.length ys.length) := by
  intro G2 H2 s1 s2 i
  have h2 := h (s1.trans s2)
  have h3 := h' (s1.trans s2)
  refine ⟨fun d hd => ?_, fun hl => ⟨xs, ys, h2, h3, rfl, rfl, zipD_end f.length f'.length hl⟩⟩
  obtain ⟨x, y, hx, hy, rfl⟩ := zipD_get hd
  obtain ⟨v, hv, hf⟩ := f.get hx
  obtain ⟨u, hu, hf'⟩ := f'.get hy
  refine ⟨⟨xs, ys, v, u, h2, h3, rfl, rfl, hv, hu⟩, fun y H3 hy => ?_⟩
  obtain ⟨T, z, z', o, rfl, hT, rfl, hd, hq, hq'⟩ := hy
  have e1 := hq xs h2
  rw [hv] at e1; cases e1
  have e2 := hq' ys h3
  rw [hu] at e2; cases e2
  exact .tup hT hd (.cons (hf.mono s1) (.cons (hf'.mono s1) .nil))
end TN
namespace TN
open PySem PySem.Spec PyProof.Rows L2
/-- a tuple at a, a tuple at b, item by item in new pairs -/
def ItzTT (K : PySem.W.Frag) (a b : Addr) (n1 n2 : Nat) : It :=
  ⟨fun i H => ∃ (xs ys : List V) (x y : V), SqT K H a xs ∧ SqT K H b ys ∧ xs.length = n1 ∧ ys.length = n2 ∧ xs[i]? = some x ∧ ys[i]? = some y,
    fun i H v H' => ∃ T x y, ∃ o : Obj, v = .ref T ∧ H T = none ∧ H' = upd H T (.frz o (.tup [x, y])) ∧ o.dict = none ∧ (∀ xs, SqT K H a xs → xs[i]? = some x) ∧ ∀ ys, SqT K H b ys → ys[i]? = some y,
    fun i H => ∃ xs ys : List V, SqT K H a xs ∧ SqT K H b ys ∧ xs.length = n1 ∧ ys.length = n2 ∧ (n1 ≤ i ∨ n2 ≤ i)⟩
theorem turn_zipTT {P : Program} {w : World} {K : PySem.W.Frag} {elts : List Expr} {kk : Nat} {tpos : Pos} {a b z TI TO i1 i2 : Addr} {n1 n2 : Nat} (D : ZipApart z TI TO i1 i2 a b) :
    Turn P w K (.Tuple elts kk tpos) (ItzTT K a b n1 n2) [z, TI, TO, i1, i2] z (fun i h => IsZip h z TI TO .none ∧ IsPair h TI (.ref i1) (.ref i2) ∧ (∃ x y, IsPair h TO x y) ∧ h.IsTupleIter i1 a i ∧ h.IsTupleIter i2 b i ∧ i ≤ n1 ∧ i ≤ n2) where
  mem := by simp
  obj := fun i h st c hc => by
    obtain ⟨hz, hTI, ⟨x, y, hTO⟩, ⟨o1, e1, _, d1⟩, ⟨o2, e2, _, d2⟩, _⟩ := st
    have e' : c = z ∨ c = TI ∨ c = TO ∨ c = i1 ∨ c = i2 := by simpa using hc
    rcases e' with q | q | q | q | q
    · rw [q]; exact ⟨_, hz, fun v q => nomatch q⟩
    · rw [q]; exact ⟨_, hTI, fun v q => nomatch q⟩
    · rw [q]; exact ⟨_, hTO, fun v q => nomatch q⟩
    · rw [q]; exact ⟨o1, e1, fun v q => by rw [d1] at q; cases q⟩
    · rw [q]; exact ⟨o2, e2, fun v q => by rw [d2] at q; cases q⟩
  keep := fun i h h' st k => by
    obtain ⟨hz, hTI, ⟨x, y, hTO⟩, h1, h2, h3⟩ := st
    exact ⟨k z (by simp) _ hz, k TI (by simp) _ hTI, ⟨x, y, k TO (by simp) _ hTO⟩, h1.at fun o q => k i1 (by simp) o q, h2.at fun o q => k i2 (by simp) o q, h3⟩
  item := by
    intro X hP hw hK hc i pins s σ H E I hf st hg
    subst hP hw hK
    obtain ⟨hz, hTI, ⟨x0, y0, hTO⟩, h1, h2, _⟩ := st
    obtain ⟨xs, ys, x, y, hqx, hqy, hn1, hn2, hx, hy⟩ := hg
    obtain ⟨its, rv, p, _⟩ := I.tuple hqx
    obtain ⟨its2, rv2, p2, _⟩ := I.tuple hqy
    have pl1 : s.heap.IsTuple a its.toArray := p
    have pl2 : s.heap.IsTuple b its2.toArray := p2
    have sz1 : its.toArray.size = n1 := by rw [List.size_toArray, ← rv.length]; exact hn1
    have sz2 : its2.toArray.size = n2 := by rw [List.size_toArray, ← rv2.length]; exact hn2
    have S : ZipSep2 z TI TO i1 i2 [i1, a] [i2, b] := ⟨D.TIz, D.TOz, D.TITO, D.TIi1, by simp, by simp [D.i1z.symm, D.l1z.symm], by simp [D.TOi1, D.l1TO.symm], D.TIi2, by simp, by simp [D.i2z.symm, D.l2z.symm], by simp [D.TOi2, D.l2TO.symm], by simp [D.i12, D.l2i1.symm], by simp [D.i12.symm, D.l1i2.symm]⟩
    obtain ⟨u, hu, ru⟩ := rv.get hx
    obtain ⟨u2, hu2, ru2⟩ := rv2.get hy
    have hzl : z < s.heap.objs.size := Heap.lt_size hz
    have lt1 : i < n1 := by rw [← hn1]; exact (List.getElem?_eq_some_iff.mp hx).1
    have lt2 : i < n2 := by rw [← hn2]; exact (List.getElem?_eq_some_iff.mp hy).1
    refine wpAny_pyNext_zipD2_item S (Draws.tuple (A := X.A.in1) (I.ok.hd hc) i1 a D.l1i1 its.toArray) (Draws.tuple (A := X.A.in1) (I.ok.hd hc) i2 b D.l2i2 its2.toArray) hz hTI hTO ⟨h1, pl1⟩ ⟨h2, pl2⟩ (by rw [sz1]; exact lt1) (by rw [sz2]; exact lt2) fun x1 x2 h' tk hx1 hx2 z' TO' st1' st2' hT hsz hk => ?_
    have ex1 : x1 = u := by
      have e1 : its[i]? = some x1 := by simpa using hx1
      rw [hu] at e1; cases e1; rfl
    have ex2 : x2 = u2 := by
      have e1 : its2[i]? = some x2 := by simpa using hx2
      rw [hu2] at e1; cases e1; rfl
    subst ex1 ex2
    refine ⟨_, rfl, wpAny_letOwnedTupleGo_zip (s := { s with heap := h', toks := tk }) z' fun h'' z'' sb => ?_⟩
    have hT2 : h''.get? s.heap.objs.size = some { cls := .type "tuple", data := .seq #[x1, x2] } := (sb.2 _ (Nat.ne_of_gt hzl)).trans hT
    have new : ObjOk X.prog X.w (upd H s.heap.objs.size (.frz { cls := .type "tuple", data := .seq #[x1, x2] } (.tup [x, y]))) h'' s.heap.objs.size (.frz { cls := .type "tuple", data := .seq #[x1, x2] } (.tup [x, y])) :=
      ⟨hT2, by show 2 ≤ sizeLine; decide, [x1, x2], .cons ru (.cons ru2 .nil), ⟨_, hT2, rfl, _, rfl⟩⟩
    have I1 : Inv X pins σ (upd H s.heap.objs.size (.frz { cls := .type "tuple", data := .seq #[x1, x2] } (.tup [x, y]))) { s with heap := h'', toks := tk } :=
      I.turnedNew (ch := [z, TI, TO, i1, i2]) (fun c o hb q => (sb.2 c (fun q' => hb (by simp [q']))).trans (hk c o (fun q' => hb (by simp [q'])) (fun q' => hb (by simp [q'])) (fun q' => hb (by simp [q'])) (fun q' => hb (by simp [q'])) q)) hf (Nat.le_refl _) new
    refine ⟨.ref s.heap.objs.size, _, I1, rfl, ⟨_, x, y, _, rfl, I.hok.fresh (Nat.le_refl _), rfl, rfl, fun l hl => by rw [I.tuple_inj hl hqx]; exact hx, fun l hl => by rw [I.tuple_inj hl hqy]; exact hy⟩, ⟨z'', ?_, ⟨x1, x2, ?_⟩, ?_, ?_, lt1, lt2⟩, fun c hcm => ?_⟩
    · exact (sb.2 _ D.TIz).trans (hk _ _ D.TIz D.TITO D.TIi1 D.TIi2 hTI)
    · exact (sb.2 _ D.TOz).trans TO'
    · exact st1'.1.at fun o q => (sb.2 _ D.i1z).trans q
    · exact st2'.1.at fun o q => (sb.2 _ D.i2z).trans q
    · have hlt : c < s.heap.objs.size := by
        have e' : c = z ∨ c = TI ∨ c = TO ∨ c = i1 ∨ c = i2 := by simpa using hcm
        rcases e' with q | q | q | q | q
        · rw [q]; exact hzl
        · rw [q]; exact Heap.lt_size hTI
        · rw [q]; exact Heap.lt_size hTO
        · rw [q]; obtain ⟨_, e1, _⟩ := h1; exact Heap.lt_size e1
        · rw [q]; obtain ⟨_, e2, _⟩ := h2; exact Heap.lt_size e2
      rw [upd_ne (Nat.ne_of_lt hlt)]
      exact (hf c hcm).1
  done := by
    intro X hP hw hK hc i pins s σ H E I hf st hg
    subst hP hw hK
    obtain ⟨hz, hTI, ⟨x0, y0, hTO⟩, h1, h2, le1, le2⟩ := st
    obtain ⟨xs, ys, hqx, hqy, hn1, hn2, hend⟩ := hg
    obtain ⟨its, rv, p, _⟩ := I.tuple hqx
    obtain ⟨its2, rv2, p2, _⟩ := I.tuple hqy
    have pl1 : s.heap.IsTuple a its.toArray := p
    have pl2 : s.heap.IsTuple b its2.toArray := p2
    have sz1 : its.toArray.size = n1 := by rw [List.size_toArray, ← rv.length]; exact hn1
    have sz2 : its2.toArray.size = n2 := by rw [List.size_toArray, ← rv2.length]; exact hn2
    have S : ZipSep2 z TI TO i1 i2 [i1, a] [i2, b] := ⟨D.TIz, D.TOz, D.TITO, D.TIi1, by simp, by simp [D.i1z.symm, D.l1z.symm], by simp [D.TOi1, D.l1TO.symm], D.TIi2, by simp, by simp [D.i2z.symm, D.l2z.symm], by simp [D.TOi2, D.l2TO.symm], by simp [D.i12, D.l2i1.symm], by simp [D.i12.symm, D.l1i2.symm]⟩
    exact wpAny_pyNext_zipD2_end S (Draws.tuple (A := X.A.in1) (I.ok.hd hc) i1 a D.l1i1 its.toArray) (Draws.tuple (A := X.A.in1) (I.ok.hd hc) i2 b D.l2i2 its2.toArray) hz hTI hTO ⟨h1, pl1⟩ ⟨h2, pl2⟩ (by rw [sz1]; exact le1) (by rw [sz2]; exact le2) (by rw [sz1, sz2]; omega) fun h' tk hk => ⟨rfl, I.turnedL (t' := tk) (ch := [z, TI, TO, i1, i2]) (fun c o hb q =>
      hk c o (fun q' => hb (by simp [q'])) (fun q' => hb (by simp [q'])) (fun q' => hb (by simp [q'])) (fun q' => hb (by simp [q'])) q) hf⟩
  self := fun A i s Q E st h => wpAny_pyIter_zip st.1 h
theorem itok_zipTT {K : PySem.W.Frag} {G : Hp} {a b : Addr} {xs ys : List V} {ds es : List D} (h : ∀ {H2 : Hp}, Same G H2 → SqT K H2 a xs) (f : FzA K G xs ds) (h' : ∀ {H2 : Hp}, Same G H2 → SqT K H2 b ys) (f' : FzA K G ys es) : ItOk K G (zipD ds es) (ItzTT K a b xs.length ys.length) := by
  intro G2 H2 s1 s2 i
  have h2 := h (s1.trans s2)
  have h3 := h' (s1.trans s2)
  refine ⟨fun d hd => ?_, fun hl => ⟨xs, ys, h2, h3, rfl, rfl, zipD_end f.length f'.length hl⟩⟩
  obtain ⟨x, y, hx, hy, rfl⟩ := zipD_get hd
  obtain ⟨v, hv, hf⟩ := f.get hx
  obtain ⟨u, hu, hf'⟩ := f'.get hy
  refine ⟨⟨xs, ys, v, u, h2, h3, rfl, rfl, hv, hu⟩, fun y H3 hy => ?_⟩
  obtain ⟨T, z, z', o, rfl, hT, rfl, hd, hq, hq'⟩ := hy
  have e1 := hq xs h2
  rw [hv] at e1; cases e1
  have e2 := hq' ys h3
  rw [hu] at e2; cases e2
  exact .tup hT hd (.cons (hf.mono s1) (.cons (hf'.mono s1) .nil))
end TN
namespace TN
open PySem PySem.Spec PyProof.Rows L2
/-- a list at a, a tuple at b, item by item in new pairs -/
def ItzLT (K : PySem.W.Frag) (a b : Addr) (n1 n2 : Nat) : It :=
  ⟨fun i H => ∃ (xs ys : List V) (x y : V), SqL K H a xs ∧ SqT K H b ys ∧ xs.length = n1 ∧ ys.length = n2 ∧ xs[i]? = some x ∧ ys[i]? = some y,
    fun i H v H' => ∃ T x y, ∃ o : Obj, v = .ref T ∧ H T = none ∧ H' = upd H T (.frz o (.tup [x, y])) ∧ o.dict = none ∧ (∀ xs, SqL K H a xs → xs[i]? = some x) ∧ ∀ ys, SqT K H b ys → ys[i]? = some y,
    fun i H => ∃ xs ys : List V, SqL K H a xs ∧ SqT K H b ys ∧ xs.length = n1 ∧ ys.length = n2 ∧ (n1 ≤ i ∨ n2 ≤ i)⟩
theorem turn_zipLT {P : Program} {w : World} {K : PySem.W.Frag} {elts : List Expr} {kk : Nat} {tpos : Pos} {a b z TI TO i1 i2 : Addr} {n1 n2 : Nat} (D : ZipApart z TI TO i1 i2 a b) :
    Turn P w K (.Tuple elts kk tpos) (ItzLT K a b n1 n2) [z, TI, TO, i1, i2] z (fun i h => IsZip h z TI TO .none ∧ IsPair h TI (.ref i1) (.ref i2) ∧ (∃ x y, IsPair h TO x y) ∧ h.IsListIter i1 a i ∧ h.IsTupleIter i2 b i ∧ i ≤ n1 ∧ i ≤ n2) where
  mem := by simp
  obj := fun i h st c hc => by
    obtain ⟨hz, hTI, ⟨x, y, hTO⟩, ⟨o1, e1, _, d1⟩, ⟨o2, e2, _, d2⟩, _⟩ := st
    have e' : c = z ∨ c = TI ∨ c = TO ∨ c = i1 ∨ c = i2 := by simpa using hc
    rcases e' with q | q | q | q | q
    · rw [q]; exact ⟨_, hz, fun v q => nomatch q⟩
    · rw [q]; exact ⟨_, hTI, fun v q => nomatch q⟩
    · rw [q]; exact ⟨_, hTO, fun v q => nomatch q⟩
    · rw [q]; exact ⟨o1, e1, fun v q => by rw [d1] at q; cases q⟩
    · rw [q]; exact ⟨o2, e2, fun v q => by rw [d2] at q; cases q⟩
  keep := fun i h h' st k => by
    obtain ⟨hz, hTI, ⟨x, y, hTO⟩, h1, h2, h3⟩ := st
    exact ⟨k z (by simp) _ hz, k TI (by simp) _ hTI, ⟨x, y, k TO (by simp) _ hTO⟩, h1.at fun o q => k i1 (by simp) o q, h2.at fun o q => k i2 (by simp) o q, h3⟩
  item := by
    intro X hP hw hK hc i pins s σ H E I hf st hg
    subst hP hw hK
    obtain ⟨hz, hTI, ⟨x0, y0, hTO⟩, h1, h2, _⟩ := st
    obtain ⟨xs, ys, x, y, hqx, hqy, hn1, hn2, hx, hy⟩ := hg
    obtain ⟨its, rv, p, _⟩ := I.list hqx
    obtain ⟨its2, rv2, p2, _⟩ := I.tuple hqy
    have pl1 : s.heap.IsList a its.toArray := p.isList
    have pl2 : s.heap.IsTuple b its2.toArray := p2
    have sz1 : its.toArray.size = n1 := by rw [List.size_toArray, ← rv.length]; exact hn1
    have sz2 : its2.toArray.size = n2 := by rw [List.size_toArray, ← rv2.length]; exact hn2
    have S : ZipSep2 z TI TO i1 i2 [i1, a] [i2, b] := ⟨D.TIz, D.TOz, D.TITO, D.TIi1, by simp, by simp [D.i1z.symm, D.l1z.symm], by simp [D.TOi1, D.l1TO.symm], D.TIi2, by simp, by simp [D.i2z.symm, D.l2z.symm], by simp [D.TOi2, D.l2TO.symm], by simp [D.i12, D.l2i1.symm], by simp [D.i12.symm, D.l1i2.symm]⟩
    obtain ⟨u, hu, ru⟩ := rv.get hx
    obtain ⟨u2, hu2, ru2⟩ := rv2.get hy
    have hzl : z < s.heap.objs.size := Heap.lt_size hz
    have lt1 : i < n1 := by rw [← hn1]; exact (List.getElem?_eq_some_iff.mp hx).1
    have lt2 : i < n2 := by rw [← hn2]; exact (List.getElem?_eq_some_iff.mp hy).1
    refine wpAny_pyNext_zipD2_item S (Draws.list (A := X.A.in1) (I.ok.hd hc) i1 a D.l1i1 its.toArray) (Draws.tuple (A := X.A.in1) (I.ok.hd hc) i2 b D.l2i2 its2.toArray) hz hTI hTO ⟨h1, pl1⟩ ⟨h2, pl2⟩ (by rw [sz1]; exact lt1) (by rw [sz2]; exact lt2) fun x1 x2 h' tk hx1 hx2 z' TO' st1' st2' hT hsz hk => ?_
    have ex1 : x1 = u := by
      have e1 : its[i]? = some x1 := by simpa using hx1
      rw [hu] at e1; cases e1; rfl
    have ex2 : x2 = u2 := by
      have e1 : its2[i]? = some x2 := by simpa using hx2
      rw [hu2] at e1; cases e1; rfl
    subst ex1 ex2
    refine ⟨_, rfl, wpAny_letOwnedTupleGo_zip (s := { s with heap := h', toks := tk }) z' fun h'' z'' sb => ?_⟩
    have hT2 : h''.get? s.heap.objs.size = some { cls := .type "tuple", data := .seq #[x1, x2] } := (sb.2 _ (Nat.ne_of_gt hzl)).trans hT
    have new : ObjOk X.prog X.w (upd H s.heap.objs.size (.frz { cls := .type "tuple", data := .seq #[x1, x2] } (.tup [x, y]))) h'' s.heap.objs.size (.frz { cls := .type "tuple", data := .seq #[x1, x2] } (.tup [x, y])) :=
      ⟨hT2, by show 2 ≤ sizeLine; decide, [x1, x2], .cons ru (.cons ru2 .nil), ⟨_, hT2, rfl, _, rfl⟩⟩
    have I1 : Inv X pins σ (upd H s.heap.objs.size (.frz { cls := .type "tuple", data := .seq #[x1, x2] } (.tup [x, y]))) { s with heap := h'', toks := tk } :=
      I.turnedNew (ch := [z, TI, TO, i1, i2]) (fun c o hb q => (sb.2 c (fun q' => hb (by simp [q']))).trans (hk c o (fun q' => hb (by simp [q'])) (fun q' => hb (by simp [q'])) (fun q' => hb (by simp [q'])) (fun q' => hb (by simp [q'])) q)) hf (Nat.le_refl _) new
    refine ⟨.ref s.heap.objs.size, _, I1, rfl, ⟨_, x, y, _, rfl, I.hok.fresh (Nat.le_refl _), rfl, rfl, fun l hl => by rw [I.list_inj hl hqx]; exact hx, fun l hl => by rw [I.tuple_inj hl hqy]; exact hy⟩, ⟨z'', ?_, ⟨x1, x2, ?_⟩, ?_, ?_, lt1, lt2⟩, fun c hcm => ?_⟩
    · exact (sb.2 _ D.TIz).trans (hk _ _ D.TIz D.TITO D.TIi1 D.TIi2 hTI)
    · exact (sb.2 _ D.TOz).trans TO'
    · exact st1'.1.at fun o q => (sb.2 _ D.i1z).trans q
    · exact st2'.1.at fun o q => (sb.2 _ D.i2z).trans q
    · have hlt : c < s.heap.objs.size := by
        have e' : c = z ∨ c = TI ∨ c = TO ∨ c = i1 ∨ c = i2 := by simpa using hcm
        rcases e' with q | q | q | q | q
        · rw [q]; exact hzl
        · rw [q]; exact Heap.lt_size hTI
        · rw [q]; exact Heap.lt_size hTO
        · rw [q]; obtain ⟨_, e1, _⟩ := h1; exact Heap.lt_size e1
        · rw [q]; obtain ⟨_, e2, _⟩ := h2; exact Heap.lt_size e2
      rw [upd_ne (Nat.ne_of_lt hlt)]
      exact (hf c hcm).1
  done := by
    intro X hP hw hK hc i pins s σ H E I hf st hg
    subst hP hw hK
    obtain ⟨hz, hTI, ⟨x0, y0, hTO⟩, h1, h2, le1, le2⟩ := st
    obtain ⟨xs, ys, hqx, hqy, hn1, hn2, hend⟩ := hg
    obtain ⟨its, rv, p, _⟩ := I.list hqx
    obtain ⟨its2, rv2, p2, _⟩ := I.tuple hqy
    have pl1 : s.heap.IsList a its.toArray := p.isList
    have pl2 : s.heap.IsTuple b its2.toArray := p2
    have sz1 : its.toArray.size = n1 := by rw [List.size_toArray, ← rv.length]; exact hn1
    have sz2 : its2.toArray.size = n2 := by rw [List.size_toArray, ← rv2.length]; exact hn2
    have S : ZipSep2 z TI TO i1 i2 [i1, a] [i2, b] := ⟨D.TIz, D.TOz, D.TITO, D.TIi1, by simp, by simp [D.i1z.symm, D.l1z.symm], by simp [D.TOi1, D.l1TO.symm], D.TIi2, by simp, by simp [D.i2z.symm, D.l2z.symm], by simp [D.TOi2, D.l2TO.symm], by simp [D.i12, D.l2i1.symm], by simp [D.i12.symm, D.l1i2.symm]⟩
    exact wpAny_pyNext_zipD2_end S (Draws.list (A := X.A.in1) (I.ok.hd hc) i1 a D.l1i1 its.toArray) (Draws.tuple (A := X.A.in1) (I.ok.hd hc) i2 b D.l2i2 its2.toArray) hz hTI hTO ⟨h1, pl1⟩ ⟨h2, pl2⟩ (by rw [sz1]; exact le1) (by rw [sz2]; exact le2) (by rw [sz1, sz2]; omega) fun h' tk hk => ⟨rfl, I.turnedL (t' := tk) (ch := [z, TI, TO, i1, i2]) (fun c o hb q =>
      hk c o (fun q' => hb (by simp [q'])) (fun q' => hb (by simp [q'])) (fun q' => hb (by simp [q'])) (fun q' => hb (by simp [q'])) q) hf⟩
  self := fun A i s Q E st h => wpAny_pyIter_zip st.1 h
theorem itok_zipLT {K : PySem.W.Frag} {G : Hp} {a b : Addr} {xs ys : List V} {ds es : List D} (h : ∀ {H2 : Hp}, Same G H2 → SqL K H2 a xs) (f : FzA K G xs ds) (h' : ∀ {H2 : Hp}, Same G H2 → SqT K H2 b ys) (f' : FzA K G ys es) : ItOk K G (zipD ds es) (ItzLT K a b xs.length ys.length) := by
  intro G2 H2 s1 s2 i
  have h2 := h (s1.trans s2)
  have h3 := h' (s1.trans s2)
  refine ⟨fun d hd => ?_, fun hl => ⟨xs, ys, h2, h3, rfl, rfl, zipD_end f.length f'.length hl⟩⟩
  obtain ⟨x, y, hx, hy, rfl⟩ := zipD_get hd
  obtain ⟨v, hv, hf⟩ := f.get hx
  obtain ⟨u, hu, hf'⟩ := f'.get hy
  refine ⟨⟨xs, ys, v, u, h2, h3, rfl, rfl, hv, hu⟩, fun y H3 hy => ?_⟩
  obtain ⟨T, z, z', o, rfl, hT, rfl, hd, hq, hq'⟩ := hy
  have e1 := hq xs h2
  rw [hv] at e1; cases e1
  have e2 := hq' ys h3
  rw [hu] at e2; cases e2
  exact .tup hT hd (.cons (hf.mono s1) (.cons (hf'.mono s1) .nil))
end TN
namespace TN
open PySem PySem.Spec PyProof.Rows L2
/-- a tuple at a, a list at b, item by item in new pairs -/
def ItzTL (K : PySem.W.Frag) (a b : Addr) (n1 n2 : Nat) : It :=
  ⟨fun i H => ∃ (xs ys : List V) (x y : V), SqT K H a xs ∧ SqL K H b ys ∧ xs.length = n1 ∧ ys.length = n2 ∧ xs[i]? = some x ∧ ys[i]? = some y,
    fun i H v H' => ∃ T x y, ∃ o : Obj, v = .ref T ∧ H T = none ∧ H' = upd H T (.frz o (.tup [x, y])) ∧ o.dict = none ∧ (∀ xs, SqT K H a xs → xs[i]? = some x) ∧ ∀ ys, SqL K H b ys → ys[i]? = some y,
    fun i H => ∃ xs ys : List V, SqT K H a xs ∧ SqL K H b ys ∧ xs.length = n1 ∧ ys.length = n2 ∧ (n1 ≤ i ∨ n2 ≤ i)⟩
theorem turn_zipTL {P : Program} {w : World} {K : PySem.W.Frag} {elts : List Expr} {kk : Nat} {tpos : Pos} {a b z TI TO i1 i2 : Addr} {n1 n2 : Nat} (D : ZipApart z TI TO i1 i2 a b) :
    Turn P w K (.Tuple elts kk tpos) (ItzTL K a b n1 n2) [z, TI, TO, i1, i2] z (fun i h => IsZip h z TI TO .none ∧ IsPair h TI (.ref i1) (.ref i2) ∧ (∃ x y, IsPair h TO x y) ∧ h.IsTupleIter i1 a i ∧ h.IsListIter i2 b i ∧ i ≤ n1 ∧ i ≤ n2) where
  mem := by simp
  obj := fun i h st c hc => by
    obtain ⟨hz, hTI, ⟨x, y, hTO⟩, ⟨o1, e1, _, d1⟩, ⟨o2, e2, _, d2⟩, _⟩ := st
    have e' : c = z ∨ c = TI ∨ c = TO ∨ c = i1 ∨ c = i2 := by simpa using hc
    rcases e' with q | q | q | q | q
    · rw [q]; exact ⟨_, hz, fun v q => nomatch q⟩
    · rw [q]; exact ⟨_, hTI, fun v q => nomatch q⟩
    · rw [q]; exact ⟨_, hTO, fun v q => nomatch q⟩
    · rw [q]; exact ⟨o1, e1, fun v q => by rw [d1] at q; cases q⟩
    · rw [q]; exact ⟨o2, e2, fun v q => by rw [d2] at q; cases q⟩
  keep := fun i h h' st k => by
    obtain ⟨hz, hTI, ⟨x, y, hTO⟩, h1, h2, h3⟩ := st
    exact ⟨k z (by simp) _ hz, k TI (by simp) _ hTI, ⟨x, y, k TO (by simp) _ hTO⟩, h1.at fun o q => k i1 (by simp) o q, h2.at fun o q => k i2 (by simp) o q, h3⟩
  item := by
    intro X hP hw hK hc i pins s σ H E I hf st hg
    subst hP hw hK
    obtain ⟨hz, hTI, ⟨x0, y0, hTO⟩, h1, h2, _⟩ := st
    obtain ⟨xs, ys, x, y, hqx, hqy, hn1, hn2, hx, hy⟩ := hg
    obtain ⟨its, rv, p, _⟩ := I.tuple hqx
    obtain ⟨its2, rv2, p2, _⟩ := I.list hqy
    have pl1 : s.heap.IsTuple a its.toArray := p
    have pl2 : s.heap.IsList b its2.toArray := p2.isList
    have sz1 : its.toArray.size = n1 := by rw [List.size_toArray, ← rv.length]; exact hn1
    have sz2 : its2.toArray.size = n2 := by rw [List.size_toArray, ← rv2.length]; exact hn2
    have S : ZipSep2 z TI TO i1 i2 [i1, a] [i2, b] := ⟨D.TIz, D.TOz, D.TITO, D.TIi1, by simp, by simp [D.i1z.symm, D.l1z.symm], by simp [D.TOi1, D.l1TO.symm], D.TIi2, by simp, by simp [D.i2z.symm, D.l2z.symm], by simp [D.TOi2, D.l2TO.symm], by simp [D.i12, D.l2i1.symm], by simp [D.i12.symm, D.l1i2.symm]⟩
    obtain ⟨u, hu, ru⟩ := rv.get hx
    obtain ⟨u2, hu2, ru2⟩ := rv2.get hy
    have hzl : z < s.heap.objs.size := Heap.lt_size hz
    have lt1 : i < n1 := by rw [← hn1]; exact (List.getElem?_eq_some_iff.mp hx).1
    have lt2 : i < n2 := by rw [← hn2]; exact (List.getElem?_eq_some_iff.mp hy).1
    refine wpAny_pyNext_zipD2_item S (Draws.tuple (A := X.A.in1) (I.ok.hd hc) i1 a D.l1i1 its.toArray) (Draws.list (A := X.A.in1) (I.ok.hd hc) i2 b D.l2i2 its2.toArray) hz hTI hTO ⟨h1, pl1⟩ ⟨h2, pl2⟩ (by rw [sz1]; exact lt1) (by rw [sz2]; exact lt2) fun x1 x2 h' tk hx1 hx2 z' TO' st1' st2' hT hsz hk => ?_
    have ex1 : x1 = u := by
      have e1 : its[i]? = some x1 := by simpa using hx1
      rw [hu] at e1; cases e1; rfl
    have ex2 : x2 = u2 := by
      have e1 : its2[i]? = some x2 := by simpa using hx2
      rw [hu2] at e1; cases e1; rfl
    subst ex1 ex2
    refine ⟨_, rfl, wpAny_letOwnedTupleGo_zip (s := { s with heap := h', toks := tk }) z' fun h'' z'' sb => ?_⟩
    have hT2 : h''.get? s.heap.objs.size = some { cls := .type "tuple", data := .seq #[x1, x2] } := (sb.2 _ (Nat.ne_of_gt hzl)).trans hT
    have new : ObjOk X.prog X.w (upd H s.heap.objs.size (.frz { cls := .type "tuple", data := .seq #[x1, x2] } (.tup [x, y]))) h'' s.heap.objs.size (.frz { cls := .type "tuple", data := .seq #[x1, x2] } (.tup [x, y])) :=
      ⟨hT2, by show 2 ≤ sizeLine; decide, [x1, x2], .cons ru (.cons ru2 .nil), ⟨_, hT2, rfl, _, rfl⟩⟩
    have I1 : Inv X pins σ (upd H s.heap.objs.size (.frz { cls := .type "tuple", data := .seq #[x1, x2] } (.tup [x, y]))) { s with heap := h'', toks := tk } :=
      I.turnedNew (ch := [z, TI, TO, i1, i2]) (fun c o hb q => (sb.2 c (fun q' => hb (by simp [q']))).trans (hk c o (fun q' => hb (by simp [q'])) (fun q' => hb (by simp [q'])) (fun q' => hb (by simp [q'])) (fun q' => hb (by simp [q'])) q)) hf (Nat.le_refl _) new
    refine ⟨.ref s.heap.objs.size, _, I1, rfl, ⟨_, x, y, _, rfl, I.hok.fresh (Nat.le_refl _), rfl, rfl, fun l hl => by rw [I.tuple_inj hl hqx]; exact hx, fun l hl => by rw [I.list_inj hl hqy]; exact hy⟩, ⟨z'', ?_, ⟨x1, x2, ?_⟩, ?_, ?_, lt1, lt2⟩, fun c hcm => ?_⟩
    · exact (sb.2 _ D.TIz).trans (hk _ _ D.TIz D.TITO D.TIi1 D.TIi2 hTI)
    · exact (sb.2 _ D.TOz).trans TO'
    · exact st1'.1.at fun o q => (sb.2 _ D.i1z).trans q
    · exact st2'.1.at fun o q => (sb.2 _ D.i2z).trans q
    · have hlt : c < s.heap.objs.size := by
        have e' : c = z ∨ c = TI ∨ c = TO ∨ c = i1 ∨ c = i2 := by simpa using hcm
        rcases e' with q | q | q | q | q
        · rw [q]; exact hzl
        · rw [q]; exact Heap.lt_size hTI
        · rw [q]; exact Heap.lt_size hTO
        · rw [q]; obtain ⟨_, e1, _⟩ := h1; exact Heap.lt_size e1
        · rw [q]; obtain ⟨_, e2, _⟩ := h2; exact Heap.lt_size e2
      rw [upd_ne (Nat.ne_of_lt hlt)]
      exact (hf c hcm).1
  done := by
    intro X hP hw hK hc i pins s σ H E I hf st hg
    subst hP hw hK
    obtain ⟨hz, hTI, ⟨x0, y0, hTO⟩, h1, h2, le1, le2⟩ := st
    obtain ⟨xs, ys, hqx, hqy, hn1, hn2, hend⟩ := hg
    obtain ⟨its, rv, p, _⟩ := I.tuple hqx
    obtain ⟨its2, rv2, p2, _⟩ := I.list hqy
    have pl1 : s.heap.IsTuple a its.toArray := p
    have pl2 : s.heap.IsList b its2.toArray := p2.isList
    have sz1 : its.toArray.size = n1 := by rw [List.size_toArray, ← rv.length]; exact hn1
    have sz2 : its2.toArray.size = n2 := by rw [List.size_toArray, ← rv2.length]; exact hn2
    have S : ZipSep2 z TI TO i1 i2 [i1, a] [i2, b] := ⟨D.TIz, D.TOz, D.TITO, D.TIi1, by simp, by simp [D.i1z.symm, D.l1z.symm], by simp [D.TOi1, D.l1TO.symm], D.TIi2, by simp, by simp [D.i2z.symm, D.l2z.symm], by simp [D.TOi2, D.l2TO.symm], by simp [D.i12, D.l2i1.symm], by simp [D.i12.symm, D.l1i2.symm]⟩
    exact wpAny_pyNext_zipD2_end S (Draws.tuple (A := X.A.in1) (I.ok.hd hc) i1 a D.l1i1 its.toArray) (Draws.list (A := X.A.in1) (I.ok.hd hc) i2 b D.l2i2 its2.toArray) hz hTI hTO ⟨h1, pl1⟩ ⟨h2, pl2⟩ (by rw [sz1]; exact le1) (by rw [sz2]; exact le2) (by rw [sz1, sz2]; omega) fun h' tk hk => ⟨rfl, I.turnedL (t' := tk) (ch := [z, TI, TO, i1, i2]) (fun c o hb q =>
      hk c o (fun q' => hb (by simp [q'])) (fun q' => hb (by simp [q'])) (fun q' => hb (by simp [q'])) (fun q' => hb (by simp [q'])) q) hf⟩
  self := fun A i s Q E st h => wpAny_pyIter_zip st.1 h
theorem itok_zipTL {K : PySem.W.Frag} {G : Hp} {a b : Addr} {xs ys : List V} {ds es : List D} (h : ∀ {H2 : Hp}, Same G H2 → SqT K H2 a xs) (f : FzA K G xs ds) (h' : ∀ {H2 : Hp}, Same G H2 → SqL K H2 b ys) (f' : FzA K G ys es) : ItOk K G (zipD ds es) (ItzTL K a b xs.length ys.length) := by
  intro G2 H2 s1 s2 i
  have h2 := h (s1.trans s2)
  have h3 := h' (s1.trans s2)
  refine ⟨fun d hd => ?_, fun hl => ⟨xs, ys, h2, h3, rfl, rfl, zipD_end f.length f'.length hl⟩⟩
  obtain ⟨x, y, hx, hy, rfl⟩ := zipD_get hd
  obtain ⟨v, hv, hf⟩ := f.get hx
  obtain ⟨u, hu, hf'⟩ := f'.get hy
  refine ⟨⟨xs, ys, v, u, h2, h3, rfl, rfl, hv, hu⟩, fun y H3 hy => ?_⟩
  obtain ⟨T, z, z', o, rfl, hT, rfl, hd, hq, hq'⟩ := hy
  have e1 := hq xs h2
  rw [hv] at e1; cases e1
  have e2 := hq' ys h3
  rw [hu] at e2; cases e2
  exact .tup hT hd (.cons (hf.mono s1) (.cons (hf'.mono s1) .nil))
end TN
namespace TN
open PySem PySem.Spec PyProof.Rows L2
section
variable {X : Cx} {e e2 : Expr} {c c2 : CE} {p pos : Pos}
def iZipM (K : PySem.W.Frag) (ta : TA) : TI := fun σ H R => ta σ H fun vs H1 => ∃ a b xs ys, vs = [.ref a, .ref b] ∧ ((SqL K H1 a xs ∧ SqL K H1 b ys ∧ R (ItzLL K a b xs.length ys.length) H1) ∨ (SqT K H1 a xs ∧ SqT K H1 b ys ∧ R (ItzTT K a b xs.length ys.length) H1) ∨ (SqL K H1 a xs ∧ SqT K H1 b ys ∧ R (ItzLT K a b xs.length ys.length) H1) ∨ (SqT K H1 a xs ∧ SqL K H1 b ys ∧ R (ItzTL K a b xs.length ys.length) H1))
theorem pi_zipM {ta : TA} {tpos : Pos} {elts : List Expr} {kk : Nat} (hg : Gl X "zip") (hm : X.mg "zip" = none) (ha : PA X [e, e2] ta)
    (hs : starEach [e, e2] X.env = (false, eval e X.env) :: starEach [e2] X.env := by rfl) (hpl : (backTo pos (starEach [e2] X.env)).any (·.1) = false := by rfl) :
    PI X (.Tuple elts kk tpos) (.Call (.Name "zip" p) [e, e2] [] pos) (iZipM X.K ta) := by
  refine ⟨fun pins s σ H R I h => ?_⟩
  refine Call_ (ld_blt I hg hm PyProof.Rows.boot_zip (PyProof.Rows.callWith_type1 (thn (ha.run pos pins s σ H _ I h) fun us s1 ⟨vs, H1, I1, r1, q1⟩ => ?_) hs hpl))
  obtain ⟨a, b, xs, ys, ex, q1⟩ := q1
  subst ex
  cases r1 with
  | cons r rr =>
    cases rr with
    | cons r' rr =>
      cases rr
      cases r
      cases r'
      have fresh5 : ∀ c, c ∈ [s1.heap.objs.size + 4, s1.heap.objs.size + 2, s1.heap.objs.size + 3, s1.heap.objs.size, s1.heap.objs.size + 1] → FpOk X pins H1 c := fun c hcm => by
        have e' : c = s1.heap.objs.size + 4 ∨ c = s1.heap.objs.size + 2 ∨ c = s1.heap.objs.size + 3 ∨ c = s1.heap.objs.size ∨ c = s1.heap.objs.size + 1 := by simpa using hcm
        have hle : s1.heap.objs.size ≤ c := by
          rcases e' with z | z | z | z | z
          · rw [z]; exact Nat.le_add_right _ _
          · rw [z]; exact Nat.le_add_right _ _
          · rw [z]; exact Nat.le_add_right _ _
          · rw [z]; exact Nat.le_refl _
          · rw [z]; exact Nat.le_add_right _ _
        exact I1.fpOk hle (I1.hok.fresh hle)
      rcases q1 with ⟨hqx, hqy, q⟩ | ⟨hqx, hqy, q⟩ | ⟨hqx, hqy, q⟩ | ⟨hqx, hqy, q⟩
      · obtain ⟨its, rv, p1, _⟩ := I1.list hqx
        obtain ⟨its2, rv2, p2, _⟩ := I1.list hqy
        refine call_zip_2 p1.isList p2.isList fun h' hz hTI hTO h1 h2 hsz hk => wpAny_pyIter_zip hz ?_
        have I2 : Inv X pins σ H1 { s1 with heap := h' } := I1.kept (t' := s1.toks) hk
        exact ⟨s1.heap.objs.size + 4, [s1.heap.objs.size + 4, s1.heap.objs.size + 2, s1.heap.objs.size + 3, s1.heap.objs.size, s1.heap.objs.size + 1], _, _, H1, rfl, I2, turn_zipLL (PySem.W.ktu_apart s1.heap.objs.size a b p1.lt p2.lt), ⟨hz, hTI, ⟨_, _, hTO⟩, h1, h2, Nat.zero_le _, Nat.zero_le _⟩, fresh5, q⟩
      · obtain ⟨its, rv, p1, _⟩ := I1.tuple hqx
        obtain ⟨its2, rv2, p2, _⟩ := I1.tuple hqy
        obtain ⟨o1, ho1, _⟩ := id p1
        obtain ⟨o2, ho2, _⟩ := id p2
        refine RZ.call_zipT (show s1.heap.IsTuple a its.toArray from p1) (show s1.heap.IsTuple b its2.toArray from p2) fun h' hz hTI hTO h1 h2 hsz hk => wpAny_pyIter_zip hz ?_
        have I2 : Inv X pins σ H1 { s1 with heap := h' } := I1.kept (t' := s1.toks) hk
        exact ⟨s1.heap.objs.size + 4, [s1.heap.objs.size + 4, s1.heap.objs.size + 2, s1.heap.objs.size + 3, s1.heap.objs.size, s1.heap.objs.size + 1], _, _, H1, rfl, I2, turn_zipTT (PySem.W.ktu_apart s1.heap.objs.size a b (Heap.lt_size ho1) (Heap.lt_size ho2)), ⟨hz, hTI, ⟨_, _, hTO⟩, h1, h2, Nat.zero_le _, Nat.zero_le _⟩, fresh5, q⟩
      · obtain ⟨its, rv, p1, _⟩ := I1.list hqx
        obtain ⟨its2, rv2, p2, _⟩ := I1.tuple hqy
        obtain ⟨o2, ho2, _⟩ := id p2
        refine call_zipLT p1.isList (show s1.heap.IsTuple b its2.toArray from p2) fun h' hz hTI hTO h1 h2 hsz hk => wpAny_pyIter_zip hz ?_
        have I2 : Inv X pins σ H1 { s1 with heap := h' } := I1.kept (t' := s1.toks) hk
        exact ⟨s1.heap.objs.size + 4, [s1.heap.objs.size + 4, s1.heap.objs.size + 2, s1.heap.objs.size + 3, s1.heap.objs.size, s1.heap.objs.size + 1], _, _, H1, rfl, I2, turn_zipLT (PySem.W.ktu_apart s1.heap.objs.size a b p1.lt (Heap.lt_size ho2)), ⟨hz, hTI, ⟨_, _, hTO⟩, h1, h2, Nat.zero_le _, Nat.zero_le _⟩, fresh5, q⟩
      · obtain ⟨its, rv, p1, _⟩ := I1.tuple hqx
        obtain ⟨its2, rv2, p2, _⟩ := I1.list hqy
        obtain ⟨o1, ho1, _⟩ := id p1
        refine call_zipTL (show s1.heap.IsTuple a its.toArray from p1) p2.isList fun h' hz hTI hTO h1 h2 hsz hk => wpAny_pyIter_zip hz ?_
        have I2 : Inv X pins σ H1 { s1 with heap := h' } := I1.kept (t' := s1.toks) hk
        exact ⟨s1.heap.objs.size + 4, [s1.heap.objs.size + 4, s1.heap.objs.size + 2, s1.heap.objs.size + 3, s1.heap.objs.size, s1.heap.objs.size + 1], _, _, H1, rfl, I2, turn_zipTL (PySem.W.ktu_apart s1.heap.objs.size a b (Heap.lt_size ho1) p2.lt), ⟨hz, hTI, ⟨_, _, hTO⟩, h1, h2, Nat.zero_le _, Nat.zero_le _⟩, fresh5, q⟩
def cZipM (c c2 : CE) : CI := fun ρ => (c ρ).bind fun p ρ1 => (c2 ρ1).bind fun q ρ2 => match frzA [p, q] ρ2 with
  | some ([.list a, .list b], ρ3) => .ok (zipD a b) ρ3
  | some ([.tuple a, .tuple b], ρ3) => .ok (zipD a b) ρ3
  | some ([.list a, .tuple b], ρ3) => .ok (zipD a b) ρ3
  | some ([.tuple a, .list b], ρ3) => .ok (zipD a b) ρ3
  | _ => .bad
theorem si_zipM {tpos : Pos} {elts : List Expr} {kk : Nat} (hg : Gl X "zip") (hm : X.mg "zip" = none) (h : SX X e c) (h' : SX X e2 c2)
    (hs : starEach [e, e2] X.env = (false, eval e X.env) :: starEach [e2] X.env := by rfl) (hs2 : starEach [e2] X.env = (false, eval e2 X.env) :: starEach [] X.env := by rfl) (hpl : (backTo pos (starEach [e2] X.env)).any (·.1) = false := by rfl) :
    SI X (.Tuple elts kk tpos) (.Call (.Name "zip" p) [e, e2] [] pos) (cZipM c c2) := fun W tk => PIimp (pi_zipM hg hm (pa_cons (h W tk) (pa_cons (h' W tk) pa_nil hs2) hs) hs hpl) (by
  rintro σ H Q ⟨L, ρ, G, B, rel, h⟩
  refine ⟨L, ρ, G, B, rel, (Got.bind h).mono ?_⟩
  rintro x H1 ⟨p, ρ1, G1, _, rel1, ext1, fx1, h1⟩
  refine ⟨L, ρ1, G1, B, rel1, (Got.bind h1).mono ?_⟩
  rintro y H2 ⟨q, ρ2, G2, _, rel2, ext2, fx2, h2⟩
  split at h2
  · rename_i a b ρ3 e1
    obtain ⟨G3, r3, x3, f3⟩ := PlA.frz rel2 (.cons (fx1.mono ext2.same) (.cons fx2 .nil)) e1
    cases f3 with
    | cons f4 f5 =>
      cases f5 with
      | cons f5 f6 =>
        cases f4 with
        | lst g1 g2 =>
          cases f5 with
          | lst g3 g4 => exact ⟨_, _, _, _, rfl, .inl ⟨.inl (Same.rd r3.sub g1), .inl (Same.rd r3.sub g3), h2 _ H2 G3 r3 x3 (itok_zipLL (fun s => .inl (Same.rd s g1)) g2 (fun s => .inl (Same.rd s g3)) g4)⟩⟩
  · rename_i a b ρ3 e1
    obtain ⟨G3, r3, x3, f3⟩ := PlA.frz rel2 (.cons (fx1.mono ext2.same) (.cons fx2 .nil)) e1
    cases f3 with
    | cons f4 f5 =>
      cases f5 with
      | cons f5 f6 =>
        cases f4 with
        | tup g1 g2 =>
          cases f5 with
          | tup g3 g4 => exact ⟨_, _, _, _, rfl, .inr (.inl ⟨Same.tp r3.sub (sqt g1), Same.tp r3.sub (sqt g3), h2 _ H2 G3 r3 x3 (itok_zipTT (fun s => Same.tp s (sqt g1)) g2 (fun s => Same.tp s (sqt g3)) g4)⟩)⟩
  · rename_i a b ρ3 e1
    obtain ⟨G3, r3, x3, f3⟩ := PlA.frz rel2 (.cons (fx1.mono ext2.same) (.cons fx2 .nil)) e1
    cases f3 with
    | cons f4 f5 =>
      cases f5 with
      | cons f5 f6 =>
        cases f4 with
        | lst g1 g2 =>
          cases f5 with
          | tup g3 g4 => exact ⟨_, _, _, _, rfl, .inr (.inr (.inl ⟨.inl (Same.rd r3.sub g1), Same.tp r3.sub (sqt g3), h2 _ H2 G3 r3 x3 (itok_zipLT (fun s => .inl (Same.rd s g1)) g2 (fun s => Same.tp s (sqt g3)) g4)⟩))⟩
  · rename_i a b ρ3 e1
    obtain ⟨G3, r3, x3, f3⟩ := PlA.frz rel2 (.cons (fx1.mono ext2.same) (.cons fx2 .nil)) e1
    cases f3 with
    | cons f4 f5 =>
      cases f5 with
      | cons f5 f6 =>
        cases f4 with
        | tup g1 g2 =>
          cases f5 with
          | lst g3 g4 => exact ⟨_, _, _, _, rfl, .inr (.inr (.inr ⟨Same.tp r3.sub (sqt g1), .inl (Same.rd r3.sub g3), h2 _ H2 G3 r3 x3 (itok_zipTL (fun s => Same.tp s (sqt g1)) g2 (fun s => .inl (Same.rd s g3)) g4)⟩))⟩
  · exact h2.elim)
end
end TN
namespace TNO
open PySem PySem.Spec PyProof.Rows L2 TN
theorem w_zipM {a b : CE} {ρ : Rho} {Q : List D → Rho → Prop} {E : Xc → Rho → Prop} (h : gE (a ρ) (fun p ρ1 => gE (b ρ1) (fun q ρ2 => fz1 p ρ2 fun d ρ3 => fz1 q ρ3 fun e ρ4 => gO (seqOf d) fun xs => gO (seqOf e) fun ys => Q (zipD xs ys) ρ4) E) E) : gE (cZipM a b ρ) Q E := by
  unfold cZipM
  refine gE_bind (gE_mono h fun p ρ1 h => gE_bind (gE_mono h fun q ρ2 h => ?_))
  obtain ⟨x, y, hx, h⟩ := gP_ex h
  obtain ⟨u, v, hu, h⟩ := gP_ex h
  obtain ⟨z, hz, h⟩ := gO_ex h
  obtain ⟨z', hz', h⟩ := gO_ex h
  have hf : frzA [p, q] ρ2 = some ([x, u], v) := by simp only [frzA, hx, hu]
  simp only [hf]
  cases x <;> cases hz <;> cases u <;> cases hz' <;> exact h
end TNO
namespace TN
open PySem PySem.Spec PyProof.Rows L2
theorem w_zipM {a b : CE} {ρ : Rho} {Q : List D → Rho → Prop} {E : Xc → Rho → Prop} (h : gE (a ρ) (fun p ρ1 => gE (b ρ1) (fun q ρ2 => fz1 p ρ2 fun d ρ3 => fz1 q ρ3 fun e ρ4 => gO (seqOf d) fun xs => gO (seqOf e) fun ys => Q (zipD xs ys) ρ4) E) E) : gE (cZipM a b ρ) Q E := by with_unfolding_all exact TNO.w_zipM h
end TN
/-! ### set(a) == set(b), of whole numbers -/
namespace PySem
open Sem (wp)
section
variable {prog : Program} {w : World} {A : Around} {E : Value → Shared → Prop} {s : Shared}
end
end PySem
namespace TN
open PySem PySem.Spec PyProof.Rows L2
section
variable {X : Cx} {a b : Expr} {ca cb : CE} {p p2 q q2 pos : Pos}
end
end TN
namespace TNO
open PySem PySem.Spec PyProof.Rows L2 TN
end TNO
namespace TN
open PySem PySem.Spec PyProof.Rows L2
end TN
/-! ### min(a, b, c) -/
namespace TN
open PySem PySem.Spec PyProof.Rows L2
end TN
namespace TN
open PySem PySem.Spec PyProof.Rows L2
/-! ### bars -/
section
variable {n : Nat} {ts : List (Nat × Nat)}
inductive Br where
  | plc
  | sh (s : Nat)
  | al
def bars (c : Nat) : List Br := [.plc] ++ (List.range (c - 1)).map (fun i => .sh (2 + i)) ++ [.al]
/-! ### round_from, by the package -/
end
/-! ### round_for -/
end TN
namespace TN
open PySem PySem.Spec PyProof.Rows L2
/-! ### the laws' look at bars -/
theorem lcI_len (n : Nat) (ts : List (Nat × Nat)) : (lcI n ts).length = n := by simp [lcI]
theorem lcI_get {n : Nat} {ts : List (Nat × Nat)} {k : Nat} (h : k < n) : (lcI n ts).getD k 0 = ((deg ts k : Nat) : Int) := by
  simp [lcI, List.getD_eq_getElem?_getD, h]
section
variable {n : Nat} {ts : List (Nat × Nat)}
end
end TN
namespace TN
open PySem PySem.Spec PyProof.Rows L2
section
variable {n : Nat} {ts : List (Nat × Nat)}
end
/-! ### the webs of the laws on bars -/
structure Bwb (n : Nat) (ts : List (Nat × Nat)) : Prop where
  ok : WebOk n ts
  ne : ∀ t ∈ ts, t.1 ≠ t.2
  l1 : 1 ≤ ts.length
  lu : ts.length ≤ 200
theorem fm_if {α β : Type} (p : α → Bool) (f : α → β) (l : List α) : l.filterMap (fun x => if p x = true then some (f x) else none) = (l.filter p).map f := by
  induction l with
  | nil => rfl
  | cons a l ih =>
    cases h : p a <;> simp [h, ih]
end TN
namespace TNO
open PySem PySem.Spec PyProof.Rows L2 TN
end TNO
namespace TN
open PySem PySem.Spec PyProof.Rows L2
end TN
namespace TN
open PySem PySem.Spec PyProof.Rows L2
abbrev ee__law_orders_1 : CE := (cBin opAdd (cVar 4) (cTup (cCons (cVar 5) cNil)))
abbrev tt__law_orders_2 : CB := (cTst (cBin opNotIn (cVar 5) (cVar 4)))
abbrev bb__law_orders_3 : CS := (cDrop (cMutL 3 fExtend (cCons (cComp (cRng2 (cLit (.int 1)) (cBin opAdd (cVar 0) (cLit (.int 1)))) (gNm 5) tt__law_orders_2 ee__law_orders_1 [5]) cNil)))
abbrev bb__law_orders_4 : CS := (cSeq (cSet 3 (cLst cNil))
  (cSeq (cFor (cIt (cVar 1)) (gNm 4)
  bb__law_orders_3)
  (cSet 1 (cVar 3))))
abbrev cc__law_orders : CS := (cSeq (cSet 1 (cLst (cCons (cTup cNil) cNil)))
  (cSeq (cFor (cRng1 (cVar 0)) (gNm 2)
  bb__law_orders_4)
  (cRet (cVar 1))))
def MM__law_orders : FM := mkF 1 6 cc__law_orders
theorem in__law_orders {x0 : D} {m0 : Md} {T : D → Bool → List Slot → Prop} {E : Xc → List Slot → Prop} (h : gS (cc__law_orders [some (x0, m0), none, none, none, none, none]) (fun ρ => T .none false (ρ.take 1)) (fun d fr ρ => T d fr (ρ.take 1)) (fun x ρ => E x (ρ.take 1))) : gF (MM__law_orders [(x0, m0)]) T E := by
  unfold MM__law_orders
  with_reducible refine gF_mkE (c := cc__law_orders) ?_ ?_ h
  · rfl
  · rfl

/-! ### orders -/
abbrev rowI (r : List Int) : D := .tuple (r.map .int)
theorem notin_row (r : List Int) (x : Int) : opNotIn (.int x) (rowI r) = some (.val (.bool (!decide (x ∈ r)))) := by
  have h : SeqAt.shaped (.int x) = true ∧ SeqAt.shaped (rowI r) = true := ⟨rfl, shaped_tints _⟩
  unfold opNotIn seqOf
  simp only [if_pos h]
  rw [any_intsL]
def nxO (m : Nat) (r : List Int) : List (List Int) := (List.range m).filterMap fun i => if decide (((1 + i : Nat) : Int) ∈ r) = true then none else some (r ++ [((1 + i : Nat) : Int)])
def ordS (m : Nat) : Nat → List (List Int)
  | 0 => [[]]
  | k + 1 => (ordS m k).flatMap (nxO m)
theorem ord_len : ((List.range 7).all fun m => (List.range 7).all fun k => decide ((ordS m k).length ≤ 720)) = true := by decide +kernel
theorem ord_le {m k : Nat} (hm : m ≤ 6) (hk : k ≤ 6) : (ordS m k).length ≤ 720 :=
  of_decide_eq_true (List.all_eq_true.mp (List.all_eq_true.mp ord_len m (List.mem_range.mpr (by omega))) k (List.mem_range.mpr (by omega)))
theorem ord_mem {m : Nat} : ∀ {k : Nat} {r : List Int}, r ∈ ordS m k → r.length = k
  | 0, r, h => by
    simp only [ordS, List.mem_cons, List.not_mem_nil, or_false] at h
    rw [h]; rfl
  | k + 1, r, h => by
    simp only [ordS, List.mem_flatMap] at h
    obtain ⟨q, hq, hr⟩ := h
    unfold nxO at hr
    obtain ⟨i, _, hi⟩ := List.mem_filterMap.mp hr
    split at hi
    · cases hi
    · cases hi
      rw [List.length_append, ord_mem hq]; rfl
theorem fm_cong2 {α β : Type} {f g : α → Option β} (h : ∀ x, f x = g x) (l : List α) : l.filterMap f = l.filterMap g := by
  rw [funext h]
theorem orders_run {m : Nat} (hm : m ≤ 6) : (MM__law_orders [(.int (m : Nat), .fz)]).rv = some (.list ((ordS m m).map rowI), decide (m = 0)) := by
  have hl0 := fun k (hk : k ≤ m) => ord_le (m := m) (k := k) hm (by omega)
  with_reducible refine rv_gF (in__law_orders ?_)
  repeat' array_mem_dec
  refine for_rng m (fun k ρ => ∃ (mo : Md) (j2 : Option D) (s3 : Slot) (j4 : Option D), (mo = .own ∨ mo = .fz) ∧ (0 < k → mo = .fz) ∧ (k = 0 → mo = .own) ∧ okS s3 ∧ ρ = [some (.int (m : Nat), .fz), some (.list ((ordS m k).map rowI), mo), jk j2, s3, jk j4, none]) rfl ⟨.own, none, none, none, .inl rfl, by omega, fun _ => rfl, trivial, rfl⟩ ?_ ?_
  · rintro k _ hk ⟨mo, j2, s3, j4, hmo, _, _, h3, rfl⟩
    have hl := hl0 k (by omega)
    have hl2 := hl0 (k + 1) (by omega)
    have hsu : ordS m (k + 1) = (ordS m k).flatMap (nxO m) := rfl
    have hrl := fun (r : List Int) (hr : r ∈ ordS m k) => ord_mem hr
    rw [hsu] at hl2 ⊢
    generalize ordS m k = A at *
    have body : gS (forL (gNm 4) bb__law_orders_3 (A.map rowI) [some (.int (m : Nat), .fz), some (.list (A.map rowI), .fz), some (.int (k : Nat), .fz), some (.list [], .own), jk j4, none])
        (fun ρ => ∃ j4, ρ = [some (.int (m : Nat), .fz), some (.list (A.map rowI), .fz), some (.int (k : Nat), .fz), some (.list ((A.flatMap (nxO m)).map rowI), .own), jk j4, none]) (fun _ _ _ => False) (fun _ _ => False) := by
      refine for_inv A rowI (fun pre ρ => ∃ j4, ρ = [some (.int (m : Nat), .fz), some (.list (A.map rowI), .fz), some (.int (k : Nat), .fz), some (.list ((pre.flatMap (nxO m)).map rowI), .own), jk j4, none]) rfl ⟨j4, rfl⟩ ?_ ?_
      · rintro pre r post _ hE ⟨j4, rfl⟩
        have hrl1 := hrl r (by rw [hE]; simp)
        have hrl2 : (r.map PyData.int).length ≤ 6 := by rw [List.length_map]; omega
        have hpl : (pre.flatMap (nxO m)).length ≤ 720 := by
          refine Nat.le_trans ?_ hl2
          rw [hE, List.flatMap_append, List.length_append]; omega
        have hnl : (nxO m r).length ≤ m := by
          unfold nxO
          exact Nat.le_trans (List.length_filterMap_le _ _) (by simp)
        have hsn : ((pre ++ [r]).flatMap (nxO m)).map rowI = (pre.flatMap (nxO m)).map rowI ++ (nxO m r).map rowI := by
          rw [List.flatMap_append, List.map_append]
          simp
        have hni := notin_row r
        have hnx : (nxO m r).map rowI = (List.range m).filterMap fun i => if decide (((1 + i : Nat) : Int) ∈ r) = true then none else some (.tuple (r.map .int ++ [.int ((1 + i : Nat) : Int)])) := by
          unfold nxO
          rw [List.map_filterMap]
          refine fm_cong2 (fun i => ?_) _
          split
          · rfl
          · simp [rowI]
        rw [hsn]
        generalize (pre.flatMap (nxO m)) = B at *
        have hrr : rowI r = .tuple (r.map .int) := rfl
        rw [hrr] at *
        repeat' array_mem_dec
        refine TN.cp_filter (List.range m) (fun i => .int ((1 + i : Nat) : Int)) (fun i => if decide (((1 + i : Nat) : Int) ∈ r) = true then none else some (.tuple (r.map .int ++ [.int ((1 + i : Nat) : Int)]))) (rgD_off 1 m (by rfl) (by omega)) (by simp; omega) (by (first | exact rfl | (repeat (first | exact TN.wOk_nil | ((apply TN.wOk_cons); exact rfl; (first | exact TN.okW_none | exact TN.okW_fz | exact TN.okW_jk | assumption)))))) (by (repeat (first | exact wipe_nil | apply wipe_cons | exact st0 | apply stS))) ?_ ?_
        · intro i hi
          have hn1 := hni ((1 + i : Nat) : Int)
          repeat' array_mem_dec
          refine br_dec (fun q => ?_) fun q => ?_
          · repeat' array_mem_dec
            exact ⟨by rw [if_pos (decide_eq_true q)], rfl⟩
          · repeat' array_mem_dec
            exact ⟨by rw [if_neg (fun z => q (of_decide_eq_true z))], rfl⟩
        · rw [← hnx]
          repeat' array_mem_dec
          exact ⟨some (.tuple (r.map .int)), rfl⟩
      · rintro _ ⟨j4, rfl⟩
        exact ⟨j4, rfl⟩
    have fin := gS_nxE body
    obtain ⟨ρ', e, j4', rfl⟩ := fin
    rcases hmo with rfl | rfl
    · repeat' array_mem_dec
      refine gS_nx e ?_
      repeat' array_mem_dec
      exact ⟨.fz, some (.int (k : Nat)), _, j4', .inr rfl, fun _ => rfl, fun z => by omega, okS_fz, rfl⟩
    · repeat' array_mem_dec
      refine gS_nx e ?_
      repeat' array_mem_dec
      exact ⟨.fz, some (.int (k : Nat)), _, j4', .inr rfl, fun _ => rfl, fun z => by omega, okS_fz, rfl⟩
  · rintro _ ⟨mo, j2, s3, j4, hmo, hm2, hm3, h3, rfl⟩
    by_cases h0 : m = 0
    · have := hm3 h0
      subst this
      repeat' array_mem_dec
      exact ⟨rfl, by rw [decide_eq_true h0]⟩
    · have := hm2 (by omega)
      subst this
      repeat' array_mem_dec
      exact ⟨rfl, by rw [decide_eq_false h0]⟩
/-! ### total_span -/
end TN
namespace TN
open PySem PySem.Spec PyProof.Rows L2
/-! ### total numberings -/
section
variable {n : Nat} {ts : List (Nat × Nat)} {P T : List Int}
/-! bars -/
inductive TBr where
  | sh (s : Nat)
  | tie
end

end TN
/-! ### isinstance(x, (list, tuple)) -/
namespace TN
open PySem PySem.Spec PyProof.Rows L2
inductive LTv (K : PySem.W.Frag) (H : Hp) : V → Bool → Prop
  | non : LTv K H .non false
  | bl (b : Bool) : LTv K H (.bl b) false
  | int (i : Int) : LTv K H (.int i) false
  | str (x : Str) : LTv K H (.str x) false
  | lst {a : Addr} {xs : List V} : SqL K H a xs → LTv K H (.ref a) true
  | tup {a : Addr} {xs : List V} : SqT K H a xs → LTv K H (.ref a) true
  | dct {a : Addr} : ((∃ kvs, H a = some (.dK kvs)) ∨ ∃ rs, H a = some (dtO a rs)) → LTv K H (.ref a) false
def tIsLT (K : PySem.W.Frag) (te : TE) : TE := fun σ H Q => te σ H fun x H1 => ∃ b, LTv K H1 x b ∧ Q (.bl b) H1
section
variable {X : Cx} {e : Expr} {te : TE} {c : CE} {p p2 p3 pos tpos : Pos}
theorem vals_ty2' {a b : String} {us : List Value} (r : Vals [V.ty a, V.ty b] us) : us = [Value.type a, Value.type b] := by
  cases r with
  | cons r t =>
    cases t with
    | cons r' t =>
      cases t
      cases r
      cases r'
      rfl
theorem pe_isiLT {k : Nat} (he : PE X e te) (hg : Gl X "isinstance") (hm : X.mg "isinstance" = none) (hgl : Gl X "list") (hml : X.mg "list" = none) (hgt : Gl X "tuple") (hmt : X.mg "tuple" = none)
    (hs1 : starEach [e, .Tuple [.Name "list" p2, .Name "tuple" p3] k tpos] X.env = (false, eval e X.env) :: starEach [.Tuple [.Name "list" p2, .Name "tuple" p3] k tpos] X.env := by rfl) (hs2 : starEach [.Tuple [.Name "list" p2, .Name "tuple" p3] k tpos] X.env = (false, eval (.Tuple [.Name "list" p2, .Name "tuple" p3] k tpos) X.env) :: starEach [] X.env := by rfl)
    (hpl : (backTo pos (starEach [.Tuple [.Name "list" p2, .Name "tuple" p3] k tpos] X.env)).any (·.1) = false := by rfl) :
    PE X (.Call (.Name "isinstance" p) [e, .Tuple [.Name "list" p2, .Name "tuple" p3] k tpos] [] pos) (tIsLT X.K te) := by
  have hes : PA X [.Name "list" p2, .Name "tuple" p3] (tCons (tC (.ty "list")) (tCons (tC (.ty "tuple")) tNil)) :=
    pa_cons (pe_bltn (v := .ty "list") hgl hml boot_list rfl (by decide) (by decide)) (pa_cons (pe_bltn (v := .ty "tuple") hgt hmt boot_tuple rfl (by decide) (by decide)) pa_nil)
  refine ⟨fun pins s σ H Q I h => ?_⟩
  refine wpAny_Call_Name_kw (ld_blt I hg hm PyProof.Rows.boot_isinstance ?_ (by decide) (by decide))
  refine PyProof.Rows.callWith_builtin1 ?_ hs1 hpl
  rw [hs1]
  show wpAny _ _ (spliced ((false, eval e X.env) :: backTo pos (starEach [.Tuple [.Name "list" p2, .Name "tuple" p3] k tpos] X.env))) _ _ s
  refine Calls.spliced_cons (thn (he.run pins s σ H _ I h) fun u s1 ⟨x, H1, I1, r1, b, hb, q1⟩ => ?_)
  rw [hs2]
  show wpAny _ _ (spliced ((false, eval (.Tuple [.Name "list" p2, .Name "tuple" p3] k tpos) X.env) :: backTo pos (starEach [] X.env))) _ _ s1
  refine Calls.spliced_cons (wpAny_Tuple_spliced (thn (hes.run tpos pins s1 σ H1 (fun ys H' => ys = [.ty "list", .ty "tuple"] ∧ H' = H1) I1 ⟨rfl, rfl⟩) fun us s2 ⟨ys, H2, I2, r2, ey, eH⟩ => ?_))
  subst ey eH
  have eu := vals_ty2' r2
  subst eu
  refine ⟨by show 2 ≤ sizeLine; rw [sizeLine_eq]; omega, ?_⟩
  have I3 : Inv X pins σ H2 { s2 with heap := s2.heap.push { cls := .type "tuple", data := .seq [Value.type "list", Value.type "tuple"].toArray } } := I2.kept (t' := s2.toks) fun b u e => Heap.get?_push_of_some _ e
  have hgp : (s2.heap.push { cls := .type "tuple", data := .seq [Value.type "list", Value.type "tuple"].toArray }).get? s2.heap.objs.size = some { cls := .type "tuple", data := .seq [Value.type "list", Value.type "tuple"].toArray } := Heap.get?_push_size _ rfl
  refine Calls.spliced_nil ?_
  cases hb with
  | non =>
    cases (show u = Value.none from r1)
    exact call_isinstance (isinstance_tuple (Tx := "NoneType") (tp := s2.heap.objs.size) (cs := [.type "list", .type "tuple"]) (vs := [false, false]) ⟨Answers.of_false_none (by decide +kernel) PySem.F.isi_meta_list PySem.F.sub_NoneType_list, Answers.of_false_none (by decide +kernel) PySem.F.isi_meta_tuple PySem.F.sub_NoneType_tuple, True.intro⟩)
      ⟨typeIs_none _, hgp, fun tk => ⟨.bl false, _, I3.tok tk, rfl, q1⟩⟩
  | bl y =>
    cases (show u = Value.bool y from r1)
    exact call_isinstance (isinstance_tuple (Tx := "bool") (tp := s2.heap.objs.size) (cs := [.type "list", .type "tuple"]) (vs := [false, false]) ⟨Answers.of_false_bool (by decide +kernel) PySem.F.isi_meta_list PySem.F.sub_bool_list, Answers.of_false_bool (by decide +kernel) PySem.F.isi_meta_tuple PySem.F.sub_bool_tuple, True.intro⟩)
      ⟨PySem.typeIs_bool _ _, hgp, fun tk => ⟨.bl false, _, I3.tok tk, rfl, q1⟩⟩
  | int i =>
    obtain ⟨t, rfl⟩ := (show ∃ t, u = Value.int i t from r1)
    exact call_isinstance (isinstance_tuple (Tx := "int") (tp := s2.heap.objs.size) (cs := [.type "list", .type "tuple"]) (vs := [false, false]) ⟨Answers.of_false_int (by decide +kernel) PySem.F.isi_meta_list PySem.F.sub_int_list, Answers.of_false_int (by decide +kernel) PySem.F.isi_meta_tuple PySem.F.sub_int_tuple, True.intro⟩)
      ⟨typeIs_int _ _ _, hgp, fun tk => ⟨.bl false, _, I3.tok tk, rfl, q1⟩⟩
  | str y =>
    obtain ⟨t, rfl⟩ := (show ∃ t, u = Value.str y t from r1)
    exact call_isinstance (isinstance_tuple (Tx := "str") (tp := s2.heap.objs.size) (cs := [.type "list", .type "tuple"]) (vs := [false, false]) ⟨Answers.of_false_str (by decide +kernel) PySem.F.isi_meta_list PySem.F.sub_str_list, Answers.of_false_str (by decide +kernel) PySem.F.isi_meta_tuple PySem.F.sub_str_tuple, True.intro⟩)
      ⟨typeIs_str _ _ _, hgp, fun tk => ⟨.bl false, _, I3.tok tk, rfl, q1⟩⟩
  | @lst a xs hq =>
    cases (show u = Value.ref a from r1)
    obtain ⟨its, rv, pl, hz⟩ := I3.list hq
    exact call_isinstance (isinstance_tuple (Tx := "list") (tp := s2.heap.objs.size) (cs := [.type "list", .type "tuple"]) (vs := [true, false]) ⟨Answers.of_true PySem.F.isi_meta_list PySem.F.sub_list_list, Answers.of_false_list (by decide +kernel) PySem.F.isi_meta_tuple PySem.F.sub_list_tuple, True.intro⟩)
      ⟨pl.isList.typeIs, hgp, fun tk => ⟨.bl true, _, I3.tok tk, rfl, q1⟩⟩
  | @tup a xs hq =>
    cases (show u = Value.ref a from r1)
    obtain ⟨its, _, ⟨o, ho, hc, _⟩, _⟩ := I3.tuple hq
    exact call_isinstance (isinstance_tuple (Tx := "tuple") (tp := s2.heap.objs.size) (cs := [.type "list", .type "tuple"]) (vs := [false, true]) ⟨Answers.of_false_tuple (by decide +kernel) PySem.F.isi_meta_list PySem.F.sub_tuple_list, Answers.of_true PySem.F.isi_meta_tuple PySem.F.sub_tuple_tuple, True.intro⟩)
      ⟨⟨o, ho, hc⟩, hgp, fun tk => ⟨.bl true, _, I3.tok tk, rfl, q1⟩⟩
  | @dct a hk =>
    cases (show u = Value.ref a from r1)
    have z : ∃ o, (s2.heap.push { cls := .type "tuple", data := .seq [Value.type "list", Value.type "tuple"].toArray }).get? a = some o ∧ o.ExactDict := by
      rcases hk with ⟨kvs, hk⟩ | ⟨kvs, hk⟩
      · obtain ⟨_, _, _, _, o, _, _, e, ex, _⟩ := I3.hok a _ hk
        exact ⟨o, e, ex⟩
      · obtain ⟨⟨_, _, _, _, _, _, _, o, _, _, e, ex, _⟩, _, _⟩ := (show ObjOk X.prog X.w H2 _ a (.ext (RawT a kvs)) from I3.hok a _ hk)
        exact ⟨o, e, ex⟩
    obtain ⟨o, ho, hc⟩ := z
    exact call_isinstance (isinstance_tuple (Tx := "dict") (tp := s2.heap.objs.size) (cs := [.type "list", .type "tuple"]) (vs := [false, false]) ⟨Answers.of_false_dict (by decide +kernel) PySem.F.isi_meta_list PySem.F.sub_dict_list, Answers.of_false_dict (by decide +kernel) PySem.F.isi_meta_tuple PySem.F.sub_dict_tuple, True.intro⟩)
      ⟨⟨o, ho, hc.1⟩, hgp, fun tk => ⟨.bl false, _, I3.tok tk, rfl, q1⟩⟩
/-- whether a thing is a list or a tuple -/
def fIsLT : D → Option Pl
  | .none => some (.val (.bool false))
  | .bool _ => some (.val (.bool false))
  | .int _ => some (.val (.bool false))
  | .str _ => some (.val (.bool false))
  | .list _ => some (.val (.bool true))
  | .tuple _ => some (.val (.bool true))
  | .dict es => if (isX (.dict es) || isOb (.dict es)) = true then none else some (.val (.bool false))
theorem sx_isiLT {k : Nat} (hg : Gl X "isinstance") (hm : X.mg "isinstance" = none) (hgl : Gl X "list") (hml : X.mg "list" = none) (hgt : Gl X "tuple") (hmt : X.mg "tuple" = none) (ha : SX X e c)
    (hs1 : starEach [e, .Tuple [.Name "list" p2, .Name "tuple" p3] k tpos] X.env = (false, eval e X.env) :: starEach [.Tuple [.Name "list" p2, .Name "tuple" p3] k tpos] X.env := by rfl) (hs2 : starEach [.Tuple [.Name "list" p2, .Name "tuple" p3] k tpos] X.env = (false, eval (.Tuple [.Name "list" p2, .Name "tuple" p3] k tpos) X.env) :: starEach [] X.env := by rfl)
    (hpl : (backTo pos (starEach [.Tuple [.Name "list" p2, .Name "tuple" p3] k tpos] X.env)).any (·.1) = false := by rfl) :
    SX X (.Call (.Name "isinstance" p) [e, .Tuple [.Name "list" p2, .Name "tuple" p3] k tpos] [] pos) (cUn fIsLT c) := fun W tk => PEimp (pe_isiLT (ha W tk) hg hm hgl hml hgt hmt hs1 hs2 hpl) (by
  rintro σ H Q ⟨L, ρ, G, B, rel, h⟩
  refine ⟨L, ρ, G, B, rel, (Got.bind h).mono ?_⟩
  rintro v H1 ⟨q, ρ1, G1, _, rel1, _, fx1, h1⟩
  cases e1 : look q ρ1 with
  | none => simp only [e1] at h1; exact h1.elim
  | some d =>
    simp only [e1] at h1
    have hv := fx1.look rel1 e1
    cases d with
    | none =>
      have e2 : v = .non := by rcases hv with h | ⟨a, rfl, h⟩ <;> cases h; rfl
      subst e2
      exact ⟨_, .non, Got.done rel1 h1 (.fz (.bl _))⟩
    | bool b =>
      have e2 : v = .bl b := by rcases hv with h | ⟨a, rfl, h⟩ <;> cases h; rfl
      subst e2
      exact ⟨_, .bl b, Got.done rel1 h1 (.fz (.bl _))⟩
    | int i =>
      have e2 : v = .int i := by rcases hv with h | ⟨a, rfl, h⟩ <;> cases h; rfl
      subst e2
      exact ⟨_, .int i, Got.done rel1 h1 (.fz (.bl _))⟩
    | str x =>
      have e2 : v = .str x := by rcases hv with h | ⟨a, rfl, h⟩ <;> cases h; rfl
      subst e2
      exact ⟨_, .str x, Got.done rel1 h1 (.fz (.bl _))⟩
    | list ds =>
      obtain ⟨a, xs, rfl, h2, h3⟩ := hv.lst rel1.sub
      exact ⟨_, .lst (.inl h2), Got.done rel1 h1 (.fz (.bl _))⟩
    | tuple ds =>
      obtain ⟨a, xs, rfl, _, h2, h3⟩ := hv.tup rel1.sub
      exact ⟨_, .tup h2, Got.done rel1 h1 (.fz (.bl _))⟩
    | dict es =>
      simp only [fIsLT] at h1
      by_cases hx : (isX (.dict es) || isOb (.dict es)) = true
      · rw [if_pos hx] at h1; exact h1.elim
      · rw [if_neg hx] at h1
        have hk : ∃ a, v = .ref a ∧ ((∃ kvs, H1 a = some (.dK kvs)) ∨ ∃ rs, H1 a = some (dtO a rs)) := by
          rcases hv with h | ⟨a, rfl, h⟩
          · cases h with
            | dK e _ => exact ⟨_, rfl, .inl ⟨_, rel1.sub _ _ e⟩⟩
            | dT e _ => exact ⟨_, rfl, .inr ⟨_, rel1.sub _ _ e⟩⟩
            | ex => exact absurd rfl hx
            | ob => exact absurd rfl hx
          · cases h with
            | dK e _ => exact ⟨_, rfl, .inl ⟨_, e⟩⟩
            | dT e _ => exact ⟨_, rfl, .inr ⟨_, e⟩⟩
            | ob => exact absurd rfl hx
        obtain ⟨a, rfl, hk⟩ := hk
        exact ⟨_, .dct hk, Got.done rel1 h1 (.fz (.bl _))⟩)
end
end TN
namespace TN
open PySem PySem.Spec PyProof.Rows L2
abbrev ee_hubs_of_1 : CE := (cVar 1)
abbrev tt_hubs_of_2 : CB := (cTst (cBin opEq (cVar 2) (cBin opSub (cBin opIx (cVar 0) (cLit (.int 0))) (cLit (.int 1)))))
abbrev cc_hubs_of : CS := (cRet (cComp (cEnum (cCall MM_tie_counts (cCons (cVar 0) cNil))) (gTp 2 (gsCons (gNm 1) (gsCons (gNm 2) gsNil))) tt_hubs_of_2 ee_hubs_of_1 [1, 2]))
def MM_hubs_of : FM := mkF 1 3 cc_hubs_of
theorem in_hubs_of {x0 : D} {m0 : Md} {T : D → Bool → List Slot → Prop} {E : Xc → List Slot → Prop} (h : gS (cc_hubs_of [some (x0, m0), none, none]) (fun ρ => T .none false (ρ.take 1)) (fun d fr ρ => T d fr (ρ.take 1)) (fun x ρ => E x (ρ.take 1))) : gF (MM_hubs_of [(x0, m0)]) T E := by
  unfold MM_hubs_of
  with_reducible refine gF_mkE (c := cc_hubs_of) ?_ ?_ h
  · rfl
  · rfl
abbrev cc_need_hub : CS := (cSeq (cSet 1 (cCall MM_hubs_of (cCons (cVar 0) cNil)))
  (cSeq (cIf (cOr (cTst (cBin opLt (cBin opIx (cVar 0) (cLit (.int 0))) (cLit (.int 3)))) (cTst (cBin opEq (cVar 1) (cLst cNil))))
  (cRaise "NoKind")
  cSkip)
  (cRet (cBin opIx (cVar 1) (cLit (.int 0))))))
def MM_need_hub : FM := mkF 1 2 cc_need_hub
theorem in_need_hub {x0 : D} {m0 : Md} {T : D → Bool → List Slot → Prop} {E : Xc → List Slot → Prop} (h : gS (cc_need_hub [some (x0, m0), none]) (fun ρ => T .none false (ρ.take 1)) (fun d fr ρ => T d fr (ρ.take 1)) (fun x ρ => E x (ρ.take 1))) : gF (MM_need_hub [(x0, m0)]) T E := by
  unfold MM_need_hub
  with_reducible refine gF_mkE (c := cc_need_hub) ?_ ?_ h
  · rfl
  · rfl
abbrev bb_sums_at_1 : CS := (cSeq (cUnp (gPut 2 putA (cVar 4)) (cBin opAdd (cBin opIx (cVar 2) (cVar 4)) (cVar 3)))
  (cUnp (gPut 2 putA (cVar 5)) (cBin opAdd (cBin opIx (cVar 2) (cVar 5)) (cVar 3))))
abbrev cc_sums_at : CS := (cSeq (cSet 2 (cBin opMul (cLst (cCons (cLit (.int 0)) cNil)) (cBin opIx (cVar 0) (cLit (.int 0)))))
  (cSeq (cFor (cZipM (cBin opIx (cVar 0) (cLit (.int 1))) (cVar 1)) (gTp 2 (gsCons (gTp 2 (gsCons (gNm 4) (gsCons (gNm 5) gsNil))) (gsCons (gNm 3) gsNil)))
  bb_sums_at_1)
  (cRet (cVar 2))))
def MM_sums_at : FM := mkF 2 6 cc_sums_at
theorem in_sums_at {x0 x1 : D} {m0 m1 : Md} {T : D → Bool → List Slot → Prop} {E : Xc → List Slot → Prop} (h : gS (cc_sums_at [some (x0, m0), some (x1, m1), none, none, none, none]) (fun ρ => T .none false (ρ.take 2)) (fun d fr ρ => T d fr (ρ.take 2)) (fun x ρ => E x (ρ.take 2))) : gF (MM_sums_at [(x0, m0), (x1, m1)]) T E := by
  unfold MM_sums_at
  with_reducible refine gF_mkE (c := cc_sums_at) ?_ ?_ h
  · rfl
  · rfl
abbrev bb_by_hub_1 : CS := (cIf (cTst (cBin opNotIn (cVar 1) (cVar 8)))
  (cUnp (gPut 3 putA (cVar 7)) (cMutL 4 fPop (cCons (cLit (.int 0)) cNil)))
  cSkip)
abbrev ee_by_hub_2 : CE := (cGet2 (cVar 3) (cVar 7) (cLit (.int 0)))
abbrev ee_by_hub_3 : CE := (cTup (cCons (cBin opIx (cVar 5) (cBin opSub (cFn fSum (cCons (cVar 8) cNil)) (cVar 1))) (cCons (cVar 7) cNil)))
abbrev tt_by_hub_4 : CB := (cTst (cBin opIn (cVar 1) (cVar 8)))
abbrev bb_by_hub_5 : CS := (cUnp (gPut 3 putA (cVar 7)) (cMutL 4 fPop (cCons (cLit (.int 0)) cNil)))
abbrev ee_by_hub_6 : CE := (cBin opIx (cVar 3) (cVar 7))
abbrev cc_by_hub : CS := (cSeq (cSet 3 cNewK)
  (cSeq (cSet 4 (cFn fListA (cCons (cVar 2) cNil)))
  (cSeq (cFor (cEnum (cBin opIx (cVar 0) (cLit (.int 1)))) (gTp 2 (gsCons (gNm 7) (gsCons (gNm 8) gsNil)))
  bb_by_hub_1)
  (cSeq (cSet 5 (cCall MM_sums_at (cCons (cVar 0) (cCons (cComp (cRng1 (cFn fLen (cCons (cBin opIx (cVar 0) (cLit (.int 1))) cNil))) (gNm 7) tTrue ee_by_hub_2 [7]) cNil))))
  (cSeq (cSet 6 (cComp (cEnum (cBin opIx (cVar 0) (cLit (.int 1)))) (gTp 2 (gsCons (gNm 7) (gsCons (gNm 8) gsNil))) tt_by_hub_4 ee_by_hub_3 [7, 8]))
  (cSeq (cFor (cIt (cFn fSorted (cCons (cVar 6) cNil))) (gTp 2 (gsCons (gNm 9) (gsCons (gNm 7) gsNil)))
  bb_by_hub_5)
  (cRet (cFn fTuple (cCons (cComp (cRng1 (cFn fLen (cCons (cBin opIx (cVar 0) (cLit (.int 1))) cNil))) (gNm 7) tTrue ee_by_hub_6 [7]) cNil)))))))))
def MM_by_hub : FM := mkF 3 10 cc_by_hub
theorem in_by_hub {x0 x1 x2 : D} {m0 m1 m2 : Md} {T : D → Bool → List Slot → Prop} {E : Xc → List Slot → Prop} (h : gS (cc_by_hub [some (x0, m0), some (x1, m1), some (x2, m2), none, none, none, none, none, none, none]) (fun ρ => T .none false (ρ.take 3)) (fun d fr ρ => T d fr (ρ.take 3)) (fun x ρ => E x (ρ.take 3))) : gF (MM_by_hub [(x0, m0), (x1, m1), (x2, m2)]) T E := by
  unfold MM_by_hub
  with_reducible refine gF_mkE (c := cc_by_hub) ?_ ?_ h
  · rfl
  · rfl
abbrev ee_numbers_in_1 : CE := (cAndV (cCall MMWhole (cCons (cVar 2) cNil)) (cBin opGt (cVar 2) (cLit (.int 0))))
abbrev cc_numbers_in : CS := (cSeq (cIf (cOr (cNot (cTst (cUn fIsLT (cVar 0)))) (cTst (cBin opNe (cFn fLen (cCons (cVar 0) cNil)) (cVar 1))))
  (cRaise "NoNumber")
  cSkip)
  (cSeq (cIf (cOr (cNot (cTst (cFn fAll (cCons (cComp (cIt (cVar 0)) (gNm 2) tTrue ee_numbers_in_1 [2]) cNil)))) (cTst (cBin opLt (cUn fLenSet (cVar 0)) (cVar 1))))
  (cRaise "NoNumber")
  cSkip)
  (cRet (cFn fSorted (cCons (cVar 0) cNil)))))
def MM_numbers_in : FM := mkF 2 3 cc_numbers_in
theorem in_numbers_in {x0 x1 : D} {m0 m1 : Md} {T : D → Bool → List Slot → Prop} {E : Xc → List Slot → Prop} (h : gS (cc_numbers_in [some (x0, m0), some (x1, m1), none]) (fun ρ => T .none false (ρ.take 2)) (fun d fr ρ => T d fr (ρ.take 2)) (fun x ρ => E x (ρ.take 2))) : gF (MM_numbers_in [(x0, m0), (x1, m1)]) T E := by
  unfold MM_numbers_in
  with_reducible refine gF_mkE (c := cc_numbers_in) ?_ ?_ h
  · rfl
  · rfl
abbrev cc_unlike_by : CS := (cSeq (cSet 2 (cCall MM_need_hub (cCons (cVar 0) cNil)))
  (cRet (cCall MM_by_hub (cCons (cVar 0) (cCons (cVar 2) (cCons (cCall MM_numbers_in (cCons (cVar 1) (cCons (cFn fLen (cCons (cBin opIx (cVar 0) (cLit (.int 1))) cNil)) cNil))) cNil))))))
def MM_unlike_by : FM := mkF 2 3 cc_unlike_by
theorem in_unlike_by {x0 x1 : D} {m0 m1 : Md} {T : D → Bool → List Slot → Prop} {E : Xc → List Slot → Prop} (h : gS (cc_unlike_by [some (x0, m0), some (x1, m1), none]) (fun ρ => T .none false (ρ.take 2)) (fun d fr ρ => T d fr (ρ.take 2)) (fun x ρ => E x (ρ.take 2))) : gF (MM_unlike_by [(x0, m0), (x1, m1)]) T E := by
  unfold MM_unlike_by
  with_reducible refine gF_mkE (c := cc_unlike_by) ?_ ?_ h
  · rfl
  · rfl
abbrev bb__law_sums_of_1 : CS := (cSeq (cUnp (gPut 2 putA (cVar 4)) (cBin opAdd (cBin opIx (cVar 2) (cVar 4)) (cBin opIx (cVar 1) (cVar 3))))
  (cUnp (gPut 2 putA (cVar 5)) (cBin opAdd (cBin opIx (cVar 2) (cVar 5)) (cBin opIx (cVar 1) (cVar 3)))))
abbrev cc__law_sums_of : CS := (cSeq (cSet 2 (cBin opMul (cLst (cCons (cLit (.int 0)) cNil)) (cBin opIx (cVar 0) (cLit (.int 0)))))
  (cSeq (cFor (cEnum (cBin opIx (cVar 0) (cLit (.int 1)))) (gTp 2 (gsCons (gNm 3) (gsCons (gTp 2 (gsCons (gNm 4) (gsCons (gNm 5) gsNil))) gsNil)))
  bb__law_sums_of_1)
  (cRet (cVar 2))))
def MM__law_sums_of : FM := mkF 2 6 cc__law_sums_of
theorem in__law_sums_of {x0 x1 : D} {m0 m1 : Md} {T : D → Bool → List Slot → Prop} {E : Xc → List Slot → Prop} (h : gS (cc__law_sums_of [some (x0, m0), some (x1, m1), none, none, none, none]) (fun ρ => T .none false (ρ.take 2)) (fun d fr ρ => T d fr (ρ.take 2)) (fun x ρ => E x (ρ.take 2))) : gF (MM__law_sums_of [(x0, m0), (x1, m1)]) T E := by
  unfold MM__law_sums_of
  with_reducible refine gF_mkE (c := cc__law_sums_of) ?_ ?_ h
  · rfl
  · rfl
abbrev bb__law_unlike_1 : CS := (cIf (cTst (cBin opEq (cBin opIx (cVar 2) (cVar 3)) (cBin opIx (cVar 2) (cBin opAdd (cVar 3) (cLit (.int 1))))))
  (cRet (cLit (.bool false)))
  cSkip)
abbrev cc__law_unlike : CS := (cSeq (cSet 2 (cFn fSorted (cCons (cCall MM__law_sums_of (cCons (cVar 0) (cCons (cVar 1) cNil))) cNil)))
  (cSeq (cFor (cRng1 (cBin opSub (cFn fLen (cCons (cVar 2) cNil)) (cLit (.int 1)))) (gNm 3)
  bb__law_unlike_1)
  (cRet (cLit (.bool true)))))
def MM__law_unlike : FM := mkF 2 4 cc__law_unlike
theorem in__law_unlike {x0 x1 : D} {m0 m1 : Md} {T : D → Bool → List Slot → Prop} {E : Xc → List Slot → Prop} (h : gS (cc__law_unlike [some (x0, m0), some (x1, m1), none, none]) (fun ρ => T .none false (ρ.take 2)) (fun d fr ρ => T d fr (ρ.take 2)) (fun x ρ => E x (ρ.take 2))) : gF (MM__law_unlike [(x0, m0), (x1, m1)]) T E := by
  unfold MM__law_unlike
  with_reducible refine gF_mkE (c := cc__law_unlike) ?_ ?_ h
  · rfl
  · rfl
/-! ### unlike numberings: the package's ways -/
/-- a dict of whole numbers by whole numbers -/
def dII (E : List (Nat × Int)) : D := .dict (E.map fun p => (PyData.int (p.1 : Nat), PyData.int p.2))
def lkI (E : List (Nat × Int)) (k : Nat) : Option Int := (E.find? fun p => p.1 == k).map (·.2)
theorem lookK_dII (k : Nat) : ∀ E : List (Nat × Int), lookK (E.map fun p => (PyData.int (p.1 : Nat), PyData.int p.2)) (.inl (k : Int)) = (lkI E k).map PyData.int
  | [] => rfl
  | (s, v) :: E => by
    simp only [List.map_cons, lookK, lookK_dII k E]
    have e : (ckOf (.int (s : Nat)) = some (.inl (k : Int))) ↔ s = k := by
      show (some (Sum.inl (s : Int) : Key) = some (.inl (k : Int))) ↔ _
      simp
      omega
    by_cases h : s = k
    · rw [if_pos (e.mpr h)]
      simp [lkI, h]
    · rw [if_neg (fun z => h (e.mp z))]
      have : ((s, v).1 == k) = false := by simpa using h
      simp [lkI, List.find?_cons, this]
theorem dGet_dII (E : List (Nat × Int)) (k : Nat) : dGet (E.map fun p => (PyData.int (p.1 : Nat), PyData.int p.2)) (.int (k : Nat)) = some ((lkI E k).map PyData.int) := by
  rw [← lookK_dII k E]
  cases E <;> rfl
theorem isE_dII (E : List (Nat × Int)) : isE (E.map fun p => (PyData.int (p.1 : Nat), PyData.int p.2)) = false := by
  cases E <;> rfl
theorem put_dII {E : List (Nat × Int)} {k : Nat} (v : Int) (h : E.length < 16777216) (hk : lkI E k = none) : putA (dII E) (.int (k : Nat)) (.int v) = some (dII (E ++ [(k, v)])) := by
  have hp : dPut (E.map fun p => (PyData.int (p.1 : Nat), PyData.int p.2)) (.int (k : Nat)) (.int v) = some (putKD (E.map fun p => (PyData.int (p.1 : Nat), PyData.int p.2)) (.inl (k : Int)) (.int v)) := by
    have hl : (E.map fun p => (PyData.int (p.1 : Nat), PyData.int p.2)).length < 16777216 := by simpa using h
    cases E with
    | nil => rfl
    | cons s S =>
      rw [List.map_cons] at hl ⊢
      show (if _ then some _ else none) = _
      rw [if_pos hl]
  show (dPut (E.map fun p => (PyData.int (p.1 : Nat), PyData.int p.2)) (.int (k : Nat)) (.int v)).map PyData.dict = _
  rw [hp]
  unfold putKD dII
  rw [lookK_dII, hk]
  simp [keyD]
theorem ix_dII {E : List (Nat × Int)} {k : Nat} {v : Int} (h : lkI E k = some v) : opIx (dII E) (.int (k : Nat)) = some (.val (.int v)) := by
  have hg := dGet_dII E k
  rw [h] at hg
  show (match dGet (E.map fun p => (PyData.int (p.1 : Nat), PyData.int p.2)) (.int (k : Nat)) with
    | some (some d) => some (Pl.val d)
    | _ => none) = _
  rw [hg]; rfl
section
variable {n : Nat} {ts : List (Nat × Nat)}
theorem notin_tie (t : Nat × Nat) (k : Nat) : opNotIn (.int (k : Nat)) (tieD t) = some (.val (.bool (!hasP t k))) := by
  have h : SeqAt.shaped (.int (k : Nat)) = true ∧ SeqAt.shaped (tieD t) = true := ⟨rfl, shaped_tints [(t.1 : Int), (t.2 : Int)]⟩
  unfold tieD at h ⊢
  unfold opNotIn seqOf
  have e : ∀ a b : Nat, ((a : Int) == (b : Int)) = (a == b) := fun a b => by
    rw [Bool.eq_iff_iff, beq_iff_eq, beq_iff_eq]
    omega
  simp only [if_pos h, List.any_cons, List.any_nil, PyData.eqv, hasP, e, Bool.or_false]
theorem sat_run (h : WebOk n ts) {V : List Int} (hV : V.length = ts.length) : (MM_sums_at [(webD n ts, .fz), (.list (V.map .int), .fz)]).rv = some (.list ((sumsL n ts V).map .int), true) := by
  have hnl := h.nl
  have h0 := rep0 h.nl
  have hz := zipD_ts ts V
  have hzm : ∀ p ∈ ts.zip V, p.1.1 < n ∧ p.1.2 < n := fun p hp => h.lt p.1 (List.of_mem_zip hp).1
  unfold sumsL
  generalize ts.zip V = Z at *
  with_reducible refine rv_gF (in_sums_at ?_)
  repeat' (first | (apply gO_of h0) | (apply w_zipM) | array_mem_dec)
  rw [hz]
  refine for_inv Z (fun p => .tuple [tieD p.1, .int p.2]) (fun pre ρ => ∃ j3 j4 j5, ρ = [some (webD n ts, .fz), some (.list (V.map .int), .fz), some (.list ((pre.foldl sumStep (List.replicate n 0)).map .int), .own), jk j3, jk j4, jk j5]) rfl ⟨none, none, none, rfl⟩ ?_ ?_
  · rintro pre p post _ hE ⟨j3, j4, j5, rfl⟩
    obtain ⟨l1, l2⟩ := hzm p (by rw [hE]; simp)
    have hal : (pre.foldl sumStep (List.replicate n 0)).length = n := by rw [sumFold_len]; simp
    rw [List.foldl_append]
    generalize pre.foldl sumStep (List.replicate n 0) = A at *
    have i1 : opIx (.list (A.map .int)) (.int (p.1.1 : Nat)) = some (.val (.int (A.getD p.1.1 0))) := ix_intsL (by omega)
    have p1 : putA (.list (A.map .int)) (.int (p.1.1 : Nat)) (.int (A.getD p.1.1 0 + p.2)) = some (.list ((addAt A p.1.1 p.2).map .int)) := put_i (by omega) _
    have hbl := addAt_len A p.1.1 p.2
    have e1 : List.foldl sumStep A [p] = addAt (addAt A p.1.1 p.2) p.1.2 p.2 := rfl
    rw [e1]
    generalize addAt A p.1.1 p.2 = Bq at *
    have i2 : opIx (.list (Bq.map .int)) (.int (p.1.2 : Nat)) = some (.val (.int (Bq.getD p.1.2 0))) := ix_intsL (by omega)
    have p2 : putA (.list (Bq.map .int)) (.int (p.1.2 : Nat)) (.int (Bq.getD p.1.2 0 + p.2)) = some (.list ((addAt Bq p.1.2 p.2).map .int)) := put_i (by omega) _
    generalize (addAt Bq p.1.2 p.2).map PyData.int = CD at *
    generalize Bq.map PyData.int = BD at *
    generalize A.map PyData.int = AD at *
    repeat' (first | (apply put_rfl p1) | (apply put_rfl p2) | array_mem_dec)
    exact ⟨some (.int p.2), some (.int (p.1.1 : Nat)), some (.int (p.1.2 : Nat)), rfl⟩
  · rintro _ ⟨j3, j4, j5, rfl⟩
    repeat' array_mem_dec
    exact ⟨rfl, rfl⟩
theorem hubs_run (h : WebOk n ts) : (MM_hubs_of [(webD n ts, .fz)]).rv = some (.list (lg (hubL n ts)), true) := by
  have hc : (MM_tie_counts [(webD n ts, .fz)]).rv = some (.tuple ((lcI n ts).map .int), false) := counts_run h
  have hnl := h.nl
  have hll := lcI_len n ts
  have key : (lcI n ts).zipIdx.filterMap (fun p => if decide (p.1 = (n : Int) - 1) = true then some (PyData.int (p.2 : Nat)) else none) = lg (hubL n ts) := by
    unfold hubL
    rw [lg_ints, List.map_map, List.map_filterMap]
    refine fm_cong2 (fun p => ?_) _
    split <;> rfl
  with_reducible refine rv_gF (in_hubs_of ?_)
  repeat' (first | array_mem_dec | ((with_reducible refine TN.c_rv ?_ ?_ hc ?_); exact rfl; exact rfl))
  refine TN.cp_enumF ((lcI n ts)) (.int) (fun k x => if decide (x = (n : Int) - 1) = true then some (.int (k : Nat)) else none) rfl (by (first | omega | (simp; done) | (simp; omega))) (by (first | exact rfl | (repeat (first | exact TN.wOk_nil | ((apply TN.wOk_cons); exact rfl; (first | exact TN.okW_none | exact TN.okW_fz | exact TN.okW_jk | assumption)))))) (by (repeat (first | exact wipe_nil | apply wipe_cons | exact st0 | apply stS))) ?_ ?_
  · intro k x hx
    repeat' array_mem_dec
    refine br_dec (fun q => ?_) fun q => ?_
    · repeat' array_mem_dec
      exact ⟨by rw [if_pos (decide_eq_true q)], rfl⟩
    · repeat' array_mem_dec
      exact ⟨by rw [if_neg (fun z => q (of_decide_eq_true z))], rfl⟩
  · rw [key]
    repeat' array_mem_dec
    exact ⟨rfl, rfl⟩
theorem need_run (h : WebOk n ts) (h3 : 3 ≤ n) {h0 : Nat} {r : List Nat} (hh : hubL n ts = h0 :: r) : (MM_need_hub [(webD n ts, .fz)]).rv = some (.int (h0 : Nat), false) := by
  have h1 := hubs_run h
  rw [hh] at h1
  have h2 : opEq (.list (lg (h0 :: r))) (.list []) = some (.val (.bool false)) := by
    have e := opEq_ints ((h0 :: r).map fun (k : Nat) => (k : Int)) []
    rw [lg_ints]
    simpa using e
  have i0 : opIx (.list (lg (h0 :: r))) (.int 0) = some (.val (.int (h0 : Nat))) := by
    rw [lg_ints]
    exact ix_intsL (ns := (h0 :: r).map fun (k : Nat) => (k : Int)) (k := 0) (by simp)
  generalize lg (h0 :: r) = LD at *
  with_reducible refine rv_gF (in_need_hub ?_)
  repeat' (first | array_mem_dec | ((with_reducible refine TN.c_rvT ?_ ?_ h1 ?_); exact rfl; exact rfl))
  all_goals exact ⟨rfl, rfl⟩
theorem numin_run {X : List Int} {m : Nat} (hl : X.length = m) (hm : m ≤ 1000) (hp : ∀ x ∈ X, 0 < x) (hn : X.Nodup) : (MM_numbers_in [(.list (X.map .int), .fz), (.int (m : Nat), .fz)]).rv = some (.list ((sortI X).map .int), true) := by
  have hXl : (X.map PyData.int).length = m := by rw [List.length_map, hl]
  have hls := fLenSet_l X (by omega)
  have hdd : (ddI X).length = m := by rw [← hl]; exact (dd_nd X).mpr hn
  have hso := fSorted_l X (by omega)
  have hal : fAll [.list (X.map fun _ => PyData.bool true)] = some (.val (.bool true)) := by
    have := fAll_map X (fun _ => true)
    rw [show (X.all fun _ => true) = true by simp] at this
    exact this
  rw [hdd] at hls
  have hlt : fIsLT (.list (X.map .int)) = some (.val (.bool true)) := rfl
  with_reducible refine rv_gF (in_numbers_in ?_)
  repeat' (first | (apply gO_of hlt) | array_mem_dec)
  refine TN.cp_map (X) (.int) (fun _ => .bool true) rfl (by (first | omega | (simp; done) | (simp; omega))) (by (first | exact rfl | (repeat (first | exact TN.wOk_nil | ((apply TN.wOk_cons); exact rfl; (first | exact TN.okW_none | exact TN.okW_fz | exact TN.okW_jk | assumption)))))) (by (repeat (first | exact wipe_nil | apply wipe_cons | exact st0 | apply stS))) ?_ ?_
  · intro x hx
    have h0 := hp x hx
    have hwr : (MMWhole [(.int x, .fz)]).rv = some (.bool true, false) := whole_run (.int x)
    repeat' (first | array_mem_dec | ((with_reducible refine TN.c_rv ?_ ?_ hwr ?_); exact rfl; exact rfl))
    exact ⟨by rw [decide_eq_true h0], rfl⟩
  · repeat' (first | (apply gO_of hal) | (apply gO_of hls) | (apply gO_of hso) | array_mem_dec)
    exact ⟨rfl, rfl⟩
/-- the keys of the ties aside from a place, of a part of the ties -/
def asdK (h : Nat) (pre : List ((Nat × Nat) × Nat)) : List Nat := (pre.filter fun p => !hasP p.1 h).map (·.2)
def lk0 (E : List (Nat × Int)) (k : Nat) : Int := (lkI E k).getD 0
def rowsH (h : Nat) (ts : List (Nat × Nat)) (W : List Nat) : List (Nat × Nat) := ts.zipIdx.filterMap fun p => if hasP p.1 h = true then some (W.getD (p.1.1 + p.1.2 - h) 0, p.2) else none
def byE (h : Nat) (ts : List (Nat × Nat)) (X : List Int) (L : List (Nat × Nat)) : List (Nat × Int) := (asdK h ts.zipIdx ++ L.map (·.2)).zip X
theorem popL {x : Int} {xs : List Int} (h : xs.length < 1000) : fPop (.list ((x :: xs).map .int)) [.int 0] = some (.list (xs.map .int), .int x) := by
  have h1 : ((x :: xs).map PyData.int).length ≤ 16777216 := by simp; omega
  show (if ((x :: xs).map PyData.int).length ≤ 16777216 then _ else none) = _
  rw [if_pos h1]
  have e : ixN ((x :: xs).map PyData.int).length (0 : Int) = some 0 := by unfold ixN; simp
  rw [e]; rfl
theorem lk_none {K : List Nat} {V : List Int} {k : Nat} (h : k ∉ K) : lkI (K.zip V) k = none := by
  unfold lkI
  rw [Option.map_eq_none_iff, List.find?_eq_none]
  intro p hp
  have := (List.of_mem_zip hp).1
  simp
  rintro rfl
  exact h this
theorem zip_snoc {K : List Nat} {X : List Int} {k : Nat} (h : K.length < X.length) : (K ++ [k]).zip X = K.zip X ++ [(k, X.getD K.length 0)] := by
  induction K generalizing X with
  | nil =>
    cases X with
    | nil => simp at h
    | cons x xs => simp
  | cons a K ih =>
    cases X with
    | nil => simp at h
    | cons x xs =>
      simp only [List.cons_append, List.zip_cons_cons, List.length_cons]
      rw [ih (by simpa using h)]
      simp
theorem drop_get {X : List Int} {i : Nat} (h : i < X.length) : X.drop i = X.getD i 0 :: X.drop (i + 1) := by
  rw [List.drop_eq_getElem_cons h, List.getD_eq_getElem?_getD, List.getElem?_eq_getElem h]; rfl
theorem asdK_snoc (hb : Nat) (pre : List ((Nat × Nat) × Nat)) (p : (Nat × Nat) × Nat) : asdK hb (pre ++ [p]) = asdK hb pre ++ if hasP p.1 hb = true then [] else [p.2] := by
  unfold asdK
  rw [List.filter_append, List.map_append]
  congr 1
  cases q : hasP p.1 hb <;> simp [q]
theorem asdK_le (hb : Nat) (pre : List ((Nat × Nat) × Nat)) : (asdK hb pre).length ≤ pre.length := by
  unfold asdK
  rw [List.length_map]
  exact List.length_filter_le _ _
theorem asdK_mem {hb : Nat} {pre : List ((Nat × Nat) × Nat)} {k : Nat} (h : k ∈ asdK hb pre) : ∃ p ∈ pre, p.2 = k := by
  unfold asdK at h
  obtain ⟨p, hp, e⟩ := List.mem_map.mp h
  exact ⟨p, (List.mem_filter.mp hp).1, e⟩
theorem zipIdx_fst {α : Type} {l : List α} {pre post : List (α × Nat)} {p : α × Nat} (h : l.zipIdx = pre ++ p :: post) : p.2 = pre.length ∧ ∀ q ∈ pre, q.2 < pre.length := by
  have hl := congrArg List.length h
  simp at hl
  have key : ∀ i (hi : i < l.zipIdx.length), (l.zipIdx[i]).2 = i := fun i hi => by simp
  constructor
  · have h1 : l.zipIdx[pre.length]? = some p := by rw [h]; simp
    obtain ⟨hi, e⟩ := List.getElem?_eq_some_iff.mp h1
    have := key _ hi
    rw [e] at this
    exact this
  · intro q hq
    obtain ⟨i, hi, e⟩ := List.mem_iff_getElem.mp hq
    have h1 : l.zipIdx[i]? = some q := by
      rw [h, List.getElem?_append_left hi, List.getElem?_eq_getElem hi, e]
    obtain ⟨hi2, e2⟩ := List.getElem?_eq_some_iff.mp h1
    have := key _ hi2
    rw [e2] at this
    omega
theorem byhub_run (h : WebOk n ts) {hb : Nat} {X : List Int} (hX : X.length = ts.length) (hm : ts.length ≤ 900) {W : List Nat} (hWl : W.length = n) (hW : sumsL n ts ((List.range ts.length).map fun k => lk0 ((asdK hb ts.zipIdx).zip X) k) = W.map (fun (k : Nat) => (k : Int)))
    (ho : ∀ t ∈ ts, hasP t hb = true → hb ≤ t.1 + t.2 ∧ t.1 + t.2 - hb < n) {L : List (Nat × Nat)} (hL : sortT (rowsH hb ts W) = L) (hKn : (asdK hb ts.zipIdx ++ L.map (·.2)).Nodup) (hKl : (asdK hb ts.zipIdx ++ L.map (·.2)).length = ts.length) (hKc : ∀ k, k < ts.length → ∃ v, lkI (byE hb ts X L) k = some v) :
    (MM_by_hub [(webD n ts, .fz), (.int (hb : Nat), .fz), (.list (X.map .int), .fz)]).rv = some (.tuple ((List.range ts.length).map fun k => .int (lk0 (byE hb ts X L) k)), false) := by
  have hnl := h.nl
  have e1 : enumD (ts.map tieD) = ts.zipIdx.map fun p => PyData.tuple [.int (p.2 : Nat), tieD p.1] := enum_zip ts tieD
  have hzl : ts.zipIdx.length = ts.length := by simp
  with_reducible refine rv_gF (in_by_hub ?_)
  repeat' array_mem_dec
  rw [e1]
  refine for_inv ts.zipIdx (fun p => PyData.tuple [.int (p.2 : Nat), tieD p.1]) (fun pre ρ => ∃ j7 j8, ρ = [some (webD n ts, .fz), some (.int (hb : Nat), .fz), some (.list (X.map .int), .fz), some (dII ((asdK hb pre).zip X), .own), some (.list ((X.drop (asdK hb pre).length).map .int), .own), none, none, jk j7, jk j8, none]) rfl ⟨none, none, rfl⟩ ?_ ?_
  · rintro pre p post _ hE ⟨j7, j8, rfl⟩
    obtain ⟨hp2, hq⟩ := zipIdx_fst hE
    have hni := notin_tie p.1 hb
    have hle := asdK_le hb pre
    have hpl : pre.length < X.length := by
      have := congrArg List.length hE
      rw [List.length_append, hzl] at this
      simp at this; omega
    rw [asdK_snoc]
    cases hc : hasP p.1 hb with
    | true =>
      rw [hc] at hni
      rw [if_pos rfl, List.append_nil]
      generalize tieD p.1 = TD at *
      repeat' array_mem_dec
      exact ⟨some (.int (p.2 : Nat)), some TD, rfl⟩
    | false =>
      rw [hc] at hni
      rw [if_neg Bool.false_ne_true]
      have hnk : p.2 ∉ asdK hb pre := fun hk => by
        obtain ⟨q, hq1, e⟩ := asdK_mem hk
        have := hq q hq1
        omega
      have hdl : (X.drop ((asdK hb pre).length + 1)).length < 1000 := by rw [List.length_drop]; omega
      have hpop := popL (x := X.getD (asdK hb pre).length 0) hdl
      rw [← drop_get (by omega)] at hpop
      have hput := put_dII (E := (asdK hb pre).zip X) (k := p.2) (X.getD (asdK hb pre).length 0) (by rw [List.length_zip]; omega) (lk_none hnk)
      rw [← zip_snoc (by omega)] at hput
      have hsl : (asdK hb pre ++ [p.2]).length = (asdK hb pre).length + 1 := by simp
      rw [hsl]
      generalize (X.drop ((asdK hb pre).length + 1)).map PyData.int = L2 at *
      generalize (X.drop (asdK hb pre).length).map PyData.int = L1 at *
      generalize X.getD (asdK hb pre).length 0 = x at *
      generalize dII ((asdK hb pre ++ [p.2]).zip X) = D2 at *
      generalize dII ((asdK hb pre).zip X) = D1 at *
      generalize tieD p.1 = TD at *
      repeat' (first | (apply gO_of hpop) | (apply put_rfl hput) | array_mem_dec)
      exact ⟨some (.int (p.2 : Nat)), some TD, rfl⟩
  · rintro _ ⟨j7, j8, rfl⟩
    have hAn : (asdK hb ts.zipIdx).length ≤ ts.length := by rw [List.length_append] at hKl; omega
    have hV : ((List.range ts.length).map fun k => lk0 ((asdK hb ts.zipIdx).zip X) k).length = ts.length := by simp
    have hsat := sat_run h hV
    rw [hW] at hsat
    have kV : (List.range ts.length).map (fun k => PyData.int (lk0 ((asdK hb ts.zipIdx).zip X) k)) = ((List.range ts.length).map fun k => lk0 ((asdK hb ts.zipIdx).zip X) k).map .int := by rw [List.map_map]; rfl
    have hrl : (rowsH hb ts W).length ≤ 1000 := by
      unfold rowsH
      exact Nat.le_trans (List.length_filterMap_le _ _) (by simp; omega)
    have hso := sortT_run (rowsH hb ts W) hrl
    rw [hL] at hso
    have kR : ts.zipIdx.filterMap (fun p => if hasP p.1 hb = true then some (tieD (W.getD (p.1.1 + p.1.2 - hb) 0, p.2)) else none) = (rowsH hb ts W).map tieD := by
      unfold rowsH
      rw [List.map_filterMap]
      refine fm_cong2 (fun p => ?_) _
      split <;> rfl
    have hWW : ((W.map fun (k : Nat) => (k : Int)).map PyData.int).length = n := by simp [hWl]
    unfold byE at hKc ⊢
    generalize hA : asdK hb ts.zipIdx = A at *
    repeat' array_mem_dec
    refine TN.cp_rng (ts.length) ((fun k => PyData.int (lk0 (A.zip X) k))) (by (first | omega | exact rfl)) (by (first | omega | (simp; done) | (simp; omega))) (by (first | exact rfl | (repeat (first | exact TN.wOk_nil | ((apply TN.wOk_cons); exact rfl; (first | exact TN.okW_none | exact TN.okW_fz | exact TN.okW_jk | assumption)))))) (by (repeat (first | exact wipe_nil | apply wipe_cons | exact st0 | apply stS))) ?_ ?_
    · intro k hk
      have hg := dGet_dII (A.zip X) k
      have hv : (((lkI (A.zip X) k).map PyData.int).getD (.int 0)) = .int (lk0 (A.zip X) k) := by
        unfold lk0
        cases lkI (A.zip X) k <;> rfl
      rw [← hv]
      unfold dII
      repeat' (first | (apply w_get2) | array_mem_dec)
      refine ⟨_, rfl, isE_dII _, ?_⟩
      repeat' array_mem_dec
      refine ⟨_, rfl, ?_⟩
      repeat' array_mem_dec
      refine ⟨_, rfl, ?_⟩
      repeat' (first | (apply gO_of hg) | array_mem_dec)
      exact ⟨rfl, rfl⟩
    · rw [kV]
      generalize ((List.range ts.length).map fun k => lk0 (A.zip X) k).map PyData.int = VD at *
      have hix : ∀ j, j < n → opIx (.list ((W.map fun (k : Nat) => (k : Int)).map .int)) (.int (j : Nat)) = some (.val (.int ((W.getD j 0 : Nat) : Int))) := fun j hj => by
        rw [ix_intsL (by simp [hWl]; exact hj)]
        congr 3
        rw [List.getD_eq_getElem?_getD, List.getD_eq_getElem?_getD, List.getElem?_map, List.getElem?_eq_getElem (by omega)]; rfl
      generalize (W.map fun (k : Nat) => (k : Int)).map PyData.int = WD at *
      repeat' (first | array_mem_dec | ((with_reducible refine TN.c_rvT ?_ ?_ hsat ?_); exact rfl; exact rfl))
      refine TN.cp_enumF (ts) (tieD) (fun k t => if hasP t hb = true then some (tieD (W.getD (t.1 + t.2 - hb) 0, k)) else none) rfl (by (first | omega | (simp; done) | (simp; omega))) (by (first | exact rfl | (repeat (first | exact TN.wOk_nil | ((apply TN.wOk_cons); exact rfl; (first | exact TN.okW_none | exact TN.okW_fz | exact TN.okW_jk | assumption)))))) (by (repeat (first | exact wipe_nil | apply wipe_cons | exact st0 | apply stS))) ?_ ?_
      · intro k t ht
        have htm := List.mem_of_getElem? ht
        have hni := in_tie t hb
        cases hc : hasP t hb with
        | false =>
          rw [hc] at hni
          generalize tieD t = TD at *
          repeat' array_mem_dec
          exact ⟨rfl, rfl⟩
        | true =>
          rw [hc] at hni
          obtain ⟨o1, o2⟩ := ho t htm hc
          have hsm : fSum [tieD t] = some (.val (.int ((t.1 + t.2 : Nat) : Int))) := by
            have := fSum_t [(t.1 : Int), (t.2 : Int)]
            unfold tieD
            simp only [List.map_cons, List.map_nil] at this
            rw [this]
            simp
          have e2 : ((t.1 + t.2 : Nat) : Int) - (hb : Nat) = ((t.1 + t.2 - hb : Nat) : Int) := by omega
          have hj := hix _ o2
          rw [if_pos rfl]
          have e3 : tieD (W.getD (t.1 + t.2 - hb) 0, k) = .tuple [.int ((W.getD (t.1 + t.2 - hb) 0 : Nat) : Int), .int (k : Nat)] := rfl
          rw [e3]
          generalize tieD t = TD at *
          repeat' (first | (rw [e2]) | array_mem_dec)
          exact ⟨rfl, rfl⟩
      · rw [kR]
        repeat' (first | (apply gO_of hso) | array_mem_dec)
        have hLl : L.length ≤ ts.length := by rw [List.length_append, List.length_map] at hKl; omega
        generalize (rowsH hb ts W).map tieD = RD at *
        refine for_inv L tieD (fun pre ρ => ∃ j7 j9, ρ = [some (webD n ts, .fz), some (.int (hb : Nat), .fz), some (.list (X.map .int), .fz), some (dII ((A ++ pre.map (·.2)).zip X), .own), some (.list ((X.drop (A.length + pre.length)).map .int), .own), some (.list WD, .own), some (.list RD, .own), jk j7, jk j8, jk j9]) rfl ⟨j7, none, by simp; rfl⟩ ?_ ?_
        · rintro pre p post _ hE ⟨j7, j9, rfl⟩
          have hpl : pre.length < L.length := by rw [hE]; simp
          have hAl : (A ++ pre.map (·.2)).length = A.length + pre.length := by simp
          have hAL : A.length + L.length = ts.length := by rw [List.length_append, List.length_map] at hKl; exact hKl
          have hnk : p.2 ∉ A ++ pre.map (·.2) := by
            rw [hE, List.map_append, List.map_cons, ← List.append_assoc] at hKn
            have := (List.nodup_append.mp hKn).2.2
            intro hk
            exact this _ hk p.2 (by simp) rfl
          have hdl : (X.drop (A.length + pre.length + 1)).length < 1000 := by rw [List.length_drop]; omega
          have hpop := popL (x := X.getD (A.length + pre.length) 0) hdl
          rw [← drop_get (by omega)] at hpop
          have hput := put_dII (E := (A ++ pre.map (·.2)).zip X) (k := p.2) (X.getD (A.length + pre.length) 0) (by rw [List.length_zip]; omega) (lk_none hnk)
          rw [← hAl, ← zip_snoc (by omega), hAl] at hput
          have e4 : A ++ (pre ++ [p]).map (·.2) = A ++ pre.map (·.2) ++ [p.2] := by simp
          have e5 : A.length + (pre ++ [p]).length = A.length + pre.length + 1 := by simp; omega
          have e6 : tieD p = .tuple [.int (p.1 : Nat), .int (p.2 : Nat)] := rfl
          rw [e4, e5, e6]
          generalize (X.drop (A.length + pre.length + 1)).map PyData.int = L2 at *
          generalize (X.drop (A.length + pre.length)).map PyData.int = L1 at *
          generalize X.getD (A.length + pre.length) 0 = x at *
          generalize dII ((A ++ pre.map (·.2) ++ [p.2]).zip X) = D2 at *
          generalize dII ((A ++ pre.map (·.2)).zip X) = D1 at *
          repeat' (first | (apply gO_of hpop) | (apply put_rfl hput) | array_mem_dec)
          exact ⟨some (.int (p.2 : Nat)), some (.int (p.1 : Nat)), rfl⟩
        · rintro _ ⟨j7, j9, rfl⟩
          have hix2 : ∀ k, k < ts.length → opIx (dII ((A ++ L.map (·.2)).zip X)) (.int (k : Nat)) = some (.val (.int (lk0 ((A ++ L.map (·.2)).zip X) k))) := fun k hk => by
            obtain ⟨v, hv⟩ := hKc k hk
            rw [ix_dII hv]
            unfold lk0
            rw [hv]; rfl
          generalize dII ((A ++ L.map (·.2)).zip X) = DD at *
          repeat' array_mem_dec
          refine TN.cp_rng (ts.length) ((fun k => PyData.int (lk0 ((A ++ L.map (·.2)).zip X) k))) (by (first | omega | exact rfl)) (by (first | omega | (simp; done) | (simp; omega))) (by (first | exact rfl | (repeat (first | exact TN.wOk_nil | ((apply TN.wOk_cons); exact rfl; (first | exact TN.okW_none | exact TN.okW_fz | exact TN.okW_jk | assumption)))))) (by (repeat (first | exact wipe_nil | apply wipe_cons | exact st0 | apply stS))) ?_ ?_
          · intro k hk
            have hk2 := hix2 k hk
            repeat' array_mem_dec
            exact ⟨rfl, rfl⟩
          · repeat' array_mem_dec
            exact ⟨rfl, rfl⟩
end
/-! the laws' sums -/
section
variable {n : Nat} {ts : List (Nat × Nat)}
theorem zip_idx (ts : List (Nat × Nat)) {V : List Int} (hV : V.length = ts.length) : ts.zip V = ts.zipIdx.map fun p => (p.1, V.getD p.2 0) := by
  apply List.ext_getElem?
  intro i
  by_cases hi : i < ts.length
  · have hv : i < V.length := by omega
    simp [hi, hv, List.getD_eq_getElem?_getD, List.getElem?_zip_eq_some]
  · rw [List.getElem?_eq_none (by simp; omega), List.getElem?_eq_none (by simp; omega)]
theorem lsat_run (h : WebOk n ts) {V : List Int} (hV : V.length = ts.length) : (MM__law_sums_of [(webD n ts, .fz), (.tuple (V.map .int), .fz)]).rv = some (.list ((sumsL n ts V).map .int), true) := by
  have hnl := h.nl
  have h0 := rep0 h.nl
  have e1 : enumD (ts.map tieD) = ts.zipIdx.map fun p => PyData.tuple [.int (p.2 : Nat), tieD p.1] := enum_zip ts tieD
  have hzm : ∀ p ∈ ts.zipIdx, p.1.1 < n ∧ p.1.2 < n ∧ p.2 < V.length := fun p hp => by
    have hg := List.mem_zipIdx_iff_getElem?.mp hp
    have := h.lt p.1 (List.mem_of_getElem? hg)
    have := (List.getElem?_eq_some_iff.mp hg).1
    omega
  unfold sumsL
  rw [zip_idx ts hV]
  generalize ts.zipIdx = Z at *
  have hfl : ∀ pre : List ((Nat × Nat) × Nat), (pre.foldl (fun acc p => sumStep acc (p.1, V.getD p.2 0)) (List.replicate n 0)).length = n := fun pre => by
    rw [← List.foldl_map (f := fun p : (Nat × Nat) × Nat => (p.1, V.getD p.2 0)) (g := sumStep), sumFold_len]; simp
  rw [List.foldl_map]
  with_reducible refine rv_gF (in__law_sums_of ?_)
  repeat' (first | (apply gO_of h0) | array_mem_dec)
  rw [e1]
  refine for_inv Z (fun p => .tuple [.int (p.2 : Nat), tieD p.1]) (fun pre ρ => ∃ j3 j4 j5, ρ = [some (webD n ts, .fz), some (.tuple (V.map .int), .fz), some (.list ((pre.foldl (fun acc p => sumStep acc (p.1, V.getD p.2 0)) (List.replicate n 0)).map .int), .own), jk j3, jk j4, jk j5]) rfl ⟨none, none, none, rfl⟩ ?_ ?_
  · rintro pre p post _ hE ⟨j3, j4, j5, rfl⟩
    obtain ⟨l1, l2, l3⟩ := hzm p (by rw [hE]; simp)
    have hal := hfl pre
    rw [List.foldl_append]
    generalize pre.foldl (fun acc p => sumStep acc (p.1, V.getD p.2 0)) (List.replicate n 0) = A at *
    have iv : opIx (.tuple (V.map .int)) (.int (p.2 : Nat)) = some (.val (.int (V.getD p.2 0))) := ix_ints l3
    have i1 : opIx (.list (A.map .int)) (.int (p.1.1 : Nat)) = some (.val (.int (A.getD p.1.1 0))) := ix_intsL (by omega)
    have p1 : putA (.list (A.map .int)) (.int (p.1.1 : Nat)) (.int (A.getD p.1.1 0 + V.getD p.2 0)) = some (.list ((addAt A p.1.1 (V.getD p.2 0)).map .int)) := put_i (by omega) _
    have hbl := addAt_len A p.1.1 (V.getD p.2 0)
    have e2 : List.foldl (fun acc (p : (Nat × Nat) × Nat) => sumStep acc (p.1, V.getD p.2 0)) A [p] = addAt (addAt A p.1.1 (V.getD p.2 0)) p.1.2 (V.getD p.2 0) := rfl
    rw [e2]
    generalize V.getD p.2 0 = v at *
    generalize addAt A p.1.1 v = Bq at *
    have i2 : opIx (.list (Bq.map .int)) (.int (p.1.2 : Nat)) = some (.val (.int (Bq.getD p.1.2 0))) := ix_intsL (by omega)
    have p2 : putA (.list (Bq.map .int)) (.int (p.1.2 : Nat)) (.int (Bq.getD p.1.2 0 + v)) = some (.list ((addAt Bq p.1.2 v).map .int)) := put_i (by omega) _
    generalize (addAt Bq p.1.2 v).map PyData.int = CD at *
    generalize Bq.map PyData.int = BD at *
    generalize A.map PyData.int = AD at *
    repeat' (first | (apply put_rfl p1) | (apply put_rfl p2) | array_mem_dec)
    exact ⟨some (.int (p.2 : Nat)), some (.int (p.1.1 : Nat)), some (.int (p.1.2 : Nat)), rfl⟩
  · rintro _ ⟨j3, j4, j5, rfl⟩
    repeat' array_mem_dec
    exact ⟨rfl, rfl⟩
end

end TN
namespace TN
open PySem PySem.Spec PyProof.Rows L2
def kV' (E : List ((Nat × Nat) × Int)) : List (Nat × Nat) := E.map (·.1)
def putV (E : List ((Nat × Nat) × Int)) (t : Nat × Nat) (v : Int) : List ((Nat × Nat) × Int) := if t ∈ kV' E then E.map (fun e => if e.1 = t then (e.1, v) else e) else E ++ [(t, v)]
section
variable {n : Nat} {ts : List (Nat × Nat)}
end
end TN
namespace TN
open PySem PySem.Spec PyProof.Rows L2
/-! ### numbers put by a hub: the sums are unlike -/
theorem perm_ofN : ∀ {r m : List Nat}, r.Nodup → (∀ x ∈ r, x ∈ m) → r.length = m.length → r.Perm m
  | [], m, _, _, h => by
    have : m = [] := List.length_eq_zero_iff.mp h.symm
    subst this; exact .nil
  | x :: r, m, hn, hs, h => by
    rw [List.nodup_cons] at hn
    have h1 := hs x (List.mem_cons_self ..)
    have ih := perm_ofN (r := r) (m := m.erase x) hn.2 (fun y hy => (List.mem_erase_of_ne (fun z : y = x => hn.1 (by rw [← z]; exact hy))).mpr (hs y (List.mem_cons_of_mem _ hy))) (by rw [List.length_erase_of_mem h1]; simp at h; omega)
    exact (ih.cons x).trans (List.perm_cons_erase h1).symm
/-- what the ties of some keys bring to a place -/
def atP (ts : List (Nat × Nat)) (f : Nat → Int) (p : Nat) (K : List Nat) : Int := (K.map fun k => if hasP (ts.getD k (0, 0)) p = true then f k else 0).sum
theorem addAt_get (xs : List Int) {k : Nat} (v : Int) (p : Nat) (hk : k < xs.length) : (addAt xs k v).getD p 0 = xs.getD p 0 + if k = p then v else 0 := by
  unfold addAt
  rw [List.getD_eq_getElem?_getD, List.getElem?_set]
  by_cases h : k = p
  · subst h
    rw [if_pos rfl, if_pos rfl, if_pos hk]
    rfl
  · rw [if_neg h, if_neg h, List.getD_eq_getElem?_getD]
    omega
theorem sumFold_get (p : Nat) : ∀ (ps : List ((Nat × Nat) × Int)) (acc : List Int), (∀ q ∈ ps, q.1.1 < acc.length ∧ q.1.2 < acc.length ∧ q.1.1 ≠ q.1.2) → (ps.foldl sumStep acc).getD p 0 = acc.getD p 0 + (ps.map fun q => if hasP q.1 p = true then q.2 else 0).sum
  | [], acc, _ => by simp
  | q :: ps, acc, h => by
    obtain ⟨h1, h2, h3⟩ := h q (List.mem_cons_self ..)
    rw [List.foldl_cons, sumFold_get p ps _ fun r hr => by rw [sumStep_len]; exact h r (List.mem_cons_of_mem _ hr)]
    unfold sumStep
    rw [addAt_get _ _ _ (by rw [addAt_len]; exact h2), addAt_get _ _ _ h1, List.map_cons, List.sum_cons]
    have e : (if hasP q.1 p = true then q.2 else 0) = (if q.1.1 = p then q.2 else 0) + (if q.1.2 = p then q.2 else 0) := by
      unfold hasP
      by_cases a : q.1.1 = p
      · have b : q.1.2 ≠ p := by omega
        simp [a, b]
      · by_cases b : q.1.2 = p <;> simp [a, b]
    rw [e]
    omega
section
variable {n : Nat} {ts : List (Nat × Nat)}
theorem sumsL_get (h : ∀ t ∈ ts, t.1 < n ∧ t.2 < n ∧ t.1 ≠ t.2) (V : List Int) (p : Nat) : (sumsL n ts V).getD p 0 = ((ts.zip V).map fun q => if hasP q.1 p = true then q.2 else 0).sum := by
  unfold sumsL
  rw [sumFold_get p _ _ fun q hq => by simpa using h q.1 (List.of_mem_zip hq).1]
  have : (List.replicate n (0 : Int)).getD p 0 = 0 := by
    rw [List.getD_eq_getElem?_getD, List.getElem?_replicate]
    split <;> rfl
  omega
theorem sumsL_atP (h : ∀ t ∈ ts, t.1 < n ∧ t.2 < n ∧ t.1 ≠ t.2) (f : Nat → Int) (p : Nat) : (sumsL n ts ((List.range ts.length).map f)).getD p 0 = atP ts f p (List.range ts.length) := by
  rw [sumsL_get h]
  unfold atP
  congr 1
  apply List.ext_getElem
  · simp
  · intro i h1 h2
    have hi : i < ts.length := by simpa using h2
    simp [List.getD_eq_getElem?_getD, List.getElem?_eq_getElem hi]
theorem zipIdx_rg : ts.zipIdx = (List.range ts.length).map fun k => (ts.getD k (0, 0), k) := by
  apply List.ext_getElem
  · simp
  · intro i h1 h2
    have hi : i < ts.length := by simpa using h2
    simp [List.getD_eq_getElem?_getD, List.getElem?_eq_getElem hi]
def asdN (hb : Nat) (ts : List (Nat × Nat)) : List Nat := (List.range ts.length).filter fun k => !hasP (ts.getD k (0, 0)) hb
def hubN (hb : Nat) (ts : List (Nat × Nat)) : List Nat := (List.range ts.length).filter fun k => hasP (ts.getD k (0, 0)) hb
def othN (hb : Nat) (ts : List (Nat × Nat)) (k : Nat) : Nat := (ts.getD k (0, 0)).1 + (ts.getD k (0, 0)).2 - hb
theorem asdK_rg (hb : Nat) : asdK hb ts.zipIdx = asdN hb ts := by
  unfold asdK asdN
  rw [zipIdx_rg, List.filter_map, List.map_map]
  exact List.map_id _
theorem rowsH_rg (hb : Nat) (W : List Nat) : rowsH hb ts W = (hubN hb ts).map fun k => (W.getD (othN hb ts k) 0, k) := by
  unfold rowsH hubN
  rw [zipIdx_rg, List.filterMap_map]
  generalize List.range ts.length = R
  induction R with
  | nil => rfl
  | cons k R ih =>
    rw [List.filterMap_cons, List.filter_cons]
    simp only [Function.comp_apply]
    cases hc : hasP (ts.getD k (0, 0)) hb with
    | false => simpa using ih
    | true => simpa [othN] using ih
theorem hubN_len (hb : Nat) : (hubN hb ts).length = deg ts hb := by
  unfold hubN deg
  have e : ts = (List.range ts.length).map fun k => ts.getD k (0, 0) := by
    apply List.ext_getElem
    · simp
    · intro i h1 h2
      simp [List.getD_eq_getElem?_getD, List.getElem?_eq_getElem h1]
  conv => rhs; rw [e]
  rw [List.countP_map, List.countP_eq_length_filter]
  rfl
theorem split_perm (hb : Nat) : (asdN hb ts ++ hubN hb ts).Perm (List.range ts.length) := by
  have := List.filter_append_perm (fun k => !hasP (ts.getD k (0, 0)) hb) (List.range ts.length)
  simp only [Bool.not_not] at this
  exact this
theorem lk_zip : ∀ {K : List Nat} {X : List Int} {i : Nat}, K.Nodup → (hi : i < K.length) → i < X.length → lkI (K.zip X) (K.getD i 0) = some (X.getD i 0)
  | [], _, _, _, h, _ => by simp at h
  | _ :: _, [], _, _, _, h => by simp at h
  | k :: K, x :: X, 0, _, _, _ => by simp [lkI]
  | k :: K, x :: X, i + 1, hn, hi, hx => by
    rw [List.nodup_cons] at hn
    have hi' : i < K.length := by simpa using hi
    have ih := lk_zip (K := K) (X := X) (i := i) hn.2 hi' (by simpa using hx)
    have hm : K.getD i 0 ∈ K := by
      rw [List.getD_eq_getElem?_getD, List.getElem?_eq_getElem hi']
      exact List.getElem_mem hi'
    have hne : ¬ k = K.getD i 0 := fun z => hn.1 (by rw [z]; exact hm)
    have e1 : (k :: K).getD (i + 1) 0 = K.getD i 0 := by simp
    have e2 : (x :: X).getD (i + 1) 0 = X.getD i 0 := by simp
    rw [e1, e2, ← ih]
    unfold lkI
    rw [List.zip_cons_cons, List.find?_cons]
    have : ((k, x).1 == K.getD i 0) = false := by simpa using hne
    rw [this]
theorem lk0_map {K : List Nat} {X : List Int} (hn : K.Nodup) (hl : K.length ≤ X.length) : K.map (lk0 (K.zip X)) = X.take K.length := by
  apply List.ext_getElem
  · simp; omega
  · intro i h1 h2
    have hi : i < K.length := by simpa using h1
    have e := lk_zip (X := X) hn hi (by omega)
    rw [List.getElem_map, List.getElem_take]
    unfold lk0
    rw [List.getD_eq_getElem?_getD, List.getElem?_eq_getElem hi, List.getD_eq_getElem?_getD, List.getElem?_eq_getElem (show i < X.length by omega)] at e
    simp only [Option.getD_some] at e
    rw [e]; rfl
theorem one_of : ∀ {P : List Nat} {Y : List Int} {i : Nat}, P.Nodup → i < P.length → Y.length = P.length → ((P.zip Y).map fun q => if q.1 = P.getD i 0 then q.2 else 0).sum = Y.getD i 0
  | [], _, _, _, h, _ => by simp at h
  | p :: P, [], _, _, _, h => by simp at h
  | p :: P, y :: Y, 0, hn, _, hl => by
    rw [List.nodup_cons] at hn
    rw [List.zip_cons_cons, List.map_cons, List.sum_cons]
    have e : ((P.zip Y).map fun q => if q.1 = (p :: P).getD 0 0 then q.2 else 0).sum = ((P.zip Y).map fun _ => (0 : Int)).sum := sum_congr fun q hq => if_neg fun z => hn.1 (by
      have := (List.of_mem_zip hq).1
      rw [z] at this
      simpa using this)
    rw [e, sum_zero]
    simp
  | p :: P, y :: Y, i + 1, hn, hi, hl => by
    rw [List.nodup_cons] at hn
    have hi' : i < P.length := by simpa using hi
    have ih := one_of (P := P) (Y := Y) (i := i) hn.2 hi' (by simpa using hl)
    have hm : P.getD i 0 ∈ P := by
      rw [List.getD_eq_getElem?_getD, List.getElem?_eq_getElem hi']
      exact List.getElem_mem hi'
    have hne : ¬ p = P.getD i 0 := fun z => hn.1 (by rw [z]; exact hm)
    have e1 : (p :: P).getD (i + 1) 0 = P.getD i 0 := by simp
    have e2 : (y :: Y).getD (i + 1) 0 = Y.getD i 0 := by simp
    rw [List.zip_cons_cons, List.map_cons, List.sum_cons, e1, e2, ih, if_neg hne]
    omega
theorem sum_ge {c : Int} : ∀ (Y : List Int), (∀ y ∈ Y, c ≤ y) → (Y.length : Int) * c ≤ Y.sum
  | [], _ => by simp
  | y :: Y, h => by
    have h1 := h y (List.mem_cons_self ..)
    have h2 := sum_ge Y fun z hz => h z (List.mem_cons_of_mem _ hz)
    rw [List.length_cons, List.sum_cons, Int.natCast_add, Int.add_mul]
    omega
theorem sum_ge1 {c : Int} : ∀ (Y : List Int) {i : Nat}, (∀ y ∈ Y, c ≤ y) → i < Y.length → Y.getD i 0 + ((Y.length : Int) - 1) * c ≤ Y.sum
  | [], _, _, h => by simp at h
  | y :: Y, 0, h, _ => by
    have h2 := sum_ge Y fun z hz => h z (List.mem_cons_of_mem _ hz)
    rw [List.length_cons, List.sum_cons, show (((Y.length + 1 : Nat) : Int) - 1) = (Y.length : Int) by omega]
    have : (y :: Y).getD 0 0 = y := rfl
    omega
  | y :: Y, i + 1, h, hi => by
    have h1 := h y (List.mem_cons_self ..)
    have h2 := sum_ge1 Y (i := i) (fun z hz => h z (List.mem_cons_of_mem _ hz)) (by simpa using hi)
    have e1 : (y :: Y).getD (i + 1) 0 = Y.getD i 0 := by simp
    rw [List.length_cons, List.sum_cons, e1, show (((Y.length + 1 : Nat) : Int) - 1) = ((Y.length : Int) - 1) + 1 by omega, Int.add_mul]
    omega
theorem atP_le (f : Nat → Int) (p : Nat) {c : Int} : ∀ (K : List Nat), (∀ k ∈ K, f k ≤ c) → atP ts f p K ≤ ((K.countP fun k => hasP (ts.getD k (0, 0)) p : Nat) : Int) * c
  | [], _ => by simp [atP]
  | k :: K, h => by
    have h1 := h k (List.mem_cons_self ..)
    have h2 := atP_le f p K fun z hz => h z (List.mem_cons_of_mem _ hz)
    unfold atP at h2 ⊢
    rw [List.map_cons, List.sum_cons, List.countP_cons]
    by_cases hc : hasP (ts.getD k (0, 0)) p = true
    · rw [if_pos hc, if_pos hc, Int.natCast_add, Int.add_mul]
      omega
    · rw [if_neg hc, if_neg hc]
      simpa using h2
theorem atP_ge (f : Nat → Int) (p : Nat) : ∀ (K : List Nat), (∀ k ∈ K, 0 ≤ f k) → 0 ≤ atP ts f p K
  | [], _ => by simp [atP]
  | k :: K, h => by
    have h1 := h k (List.mem_cons_self ..)
    have h2 := atP_ge f p K fun z hz => h z (List.mem_cons_of_mem _ hz)
    unfold atP at h2 ⊢
    rw [List.map_cons, List.sum_cons]
    split <;> omega
theorem atP_app (f : Nat → Int) (p : Nat) (A B : List Nat) : atP ts f p (A ++ B) = atP ts f p A + atP ts f p B := by
  unfold atP
  rw [List.map_append, List.sum_append]
theorem atP_perm (f : Nat → Int) (p : Nat) {A B : List Nat} (h : A.Perm B) : atP ts f p A = atP ts f p B := sum_perm (h.map _)
variable {hb : Nat}
theorem get_mem {k : Nat} (hk : k < ts.length) : ts.getD k (0, 0) ∈ ts := by
  rw [List.getD_eq_getElem?_getD, List.getElem?_eq_getElem hk]
  exact List.getElem_mem hk
theorem get_inj (hn : ts.Nodup) {i j : Nat} (hi : i < ts.length) (hj : j < ts.length) (h : ts.getD i (0, 0) = ts.getD j (0, 0)) : i = j := by
  rw [List.getD_eq_getElem?_getD, List.getElem?_eq_getElem hi, List.getD_eq_getElem?_getD, List.getElem?_eq_getElem hj] at h
  exact (List.getElem_inj hn).mp h
theorem other_ne {t : Nat × Nat} {p : Nat} (h : t.1 < t.2) (hp : hasP t p = true) : p ≤ t.1 + t.2 ∧ t.1 + t.2 - p ≠ p ∧ (t.1 + t.2 - p = t.1 ∨ t.1 + t.2 - p = t.2) := by
  unfold hasP at hp
  rw [Bool.or_eq_true, beq_iff_eq, beq_iff_eq] at hp
  omega
theorem same_tie {t u : Nat × Nat} {p : Nat} (ht : t.1 < t.2) (hu : u.1 < u.2) (h1 : hasP t p = true) (h2 : hasP u p = true) (h : t.1 + t.2 - p = u.1 + u.2 - p) : t = u := by
  unfold hasP at h1 h2
  rw [Bool.or_eq_true, beq_iff_eq, beq_iff_eq] at h1 h2
  apply Prod.ext <;> omega
theorem oth_nd (w : HubW n ts hb) (p : Nat) {K : List Nat} (hK : K.Nodup) (h : ∀ k ∈ K, k < ts.length ∧ hasP (ts.getD k (0, 0)) p = true) : (K.map (othN p ts)).Nodup := by
  refine List.Pairwise.map _ (R := fun i j => i ≠ j ∧ i ∈ K ∧ j ∈ K) (fun i j hij e => ?_) ?_
  · obtain ⟨hne, hi, hj⟩ := hij
    obtain ⟨l1, q1⟩ := h i hi
    obtain ⟨l2, q2⟩ := h j hj
    exact hne (get_inj w.nd l1 l2 (same_tie (w.lt _ (get_mem l1)).1 (w.lt _ (get_mem l2)).1 q1 q2 e))
  · have : K.Pairwise fun i j => i ≠ j := hK
    exact List.Pairwise.imp_of_mem (fun ha hb hab => ⟨hab, ha, hb⟩) this
theorem hubN_mem {k : Nat} : k ∈ hubN hb ts ↔ k < ts.length ∧ hasP (ts.getD k (0, 0)) hb = true := by
  unfold hubN
  rw [List.mem_filter, List.mem_range]
theorem asdN_mem {k : Nat} : k ∈ asdN hb ts ↔ k < ts.length ∧ hasP (ts.getD k (0, 0)) hb = false := by
  unfold asdN
  rw [List.mem_filter, List.mem_range, Bool.not_eq_true']
/-- aside from the hub few ties meet -/
theorem asd_few (w : HubW n ts hb) {q : Nat} (hq : q < n) (hqh : q ≠ hb) : (asdN hb ts).countP (fun k => hasP (ts.getD k (0, 0)) q) + 2 ≤ n := by
  rw [List.countP_eq_length_filter]
  have hnd : ((asdN hb ts).filter fun k => hasP (ts.getD k (0, 0)) q).Nodup := List.Pairwise.filter _ (List.Pairwise.filter _ (List.nodup_range (n := ts.length)))
  have hm : ∀ k ∈ (asdN hb ts).filter (fun k => hasP (ts.getD k (0, 0)) q), k < ts.length ∧ hasP (ts.getD k (0, 0)) q = true := fun k hk => by
    obtain ⟨h1, h2⟩ := List.mem_filter.mp hk
    exact ⟨(asdN_mem.mp h1).1, h2⟩
  have hn2 := oth_nd w q hnd hm
  have hn3 : (q :: hb :: ((asdN hb ts).filter fun k => hasP (ts.getD k (0, 0)) q).map (othN q ts)).Nodup := by
    rw [List.nodup_cons, List.nodup_cons]
    refine ⟨?_, ?_, hn2⟩
    · intro h
      rcases List.mem_cons.mp h with h | h
      · exact hqh h
      · obtain ⟨k, hk, e⟩ := List.mem_map.mp h
        obtain ⟨l, z⟩ := hm k hk
        exact (other_ne (w.lt _ (get_mem l)).1 z).2.1 e
    · intro h
      obtain ⟨k, hk, e⟩ := List.mem_map.mp h
      obtain ⟨l, z⟩ := hm k hk
      have ha := (asdN_mem.mp (List.mem_filter.mp hk).1).2
      have ho := (other_ne (w.lt _ (get_mem l)).1 z).2.2
      unfold othN at e
      rw [e] at ho
      unfold hasP at ha
      rw [Bool.or_eq_false_iff, beq_eq_false_iff_ne, beq_eq_false_iff_ne] at ha
      rcases ho with ho | ho
      · exact ha.1 ho.symm
      · exact ha.2 ho.symm
  have := nodup_le (m := List.range n) hn3 fun x hx => by
    rw [List.mem_range]
    rcases List.mem_cons.mp hx with h | h
    · omega
    · rcases List.mem_cons.mp h with h | h
      · have := w.hn; omega
      · obtain ⟨k, hk, e⟩ := List.mem_map.mp h
        obtain ⟨l, z⟩ := hm k hk
        have ho := (other_ne (w.lt _ (get_mem l)).1 z).2.2
        have hl := w.lt _ (get_mem l)
        unfold othN at e
        omega
  simp only [List.length_cons, List.length_map, List.length_range] at this
  omega
theorem getD_cast (W : List Nat) (p : Nat) : (W.map fun (k : Nat) => (k : Int)).getD p 0 = ((W.getD p 0 : Nat) : Int) := by
  rw [List.getD_eq_getElem?_getD, List.getD_eq_getElem?_getD, List.getElem?_map]
  cases W[p]? <;> rfl
theorem pw_get {α : Type} {R : α → α → Prop} {l : List α} (h : l.Pairwise R) (d : α) {i j : Nat} (hij : i < j) (hj : j < l.length) : R (l.getD i d) (l.getD j d) := by
  rw [List.getD_eq_getElem?_getD, List.getElem?_eq_getElem (show i < l.length by omega), List.getD_eq_getElem?_getD, List.getElem?_eq_getElem hj]
  exact List.pairwise_iff_getElem.mp h i j (by omega) hj hij
theorem getD_drop (X : List Int) (a i : Nat) : (X.drop a).getD i 0 = X.getD (a + i) 0 := by
  rw [List.getD_eq_getElem?_getD, List.getElem?_drop, ← List.getD_eq_getElem?_getD]
theorem getD_mem {X : List Int} {i : Nat} (h : i < X.length) : X.getD i 0 ∈ X := by
  rw [List.getD_eq_getElem?_getD, List.getElem?_eq_getElem h]
  exact List.getElem_mem h
theorem hub_unlike (w : HubW n ts hb) {X : List Int} (hX : X.length = ts.length) (hs : X.Pairwise (· < ·)) (hp : ∀ x ∈ X, 0 < x) :
    ∃ (W : List Nat) (L : List (Nat × Nat)), W.length = n ∧ sumsL n ts ((List.range ts.length).map fun k => lk0 ((asdK hb ts.zipIdx).zip X) k) = W.map (fun (k : Nat) => (k : Int)) ∧ sortT (rowsH hb ts W) = L ∧
      (asdK hb ts.zipIdx ++ L.map (·.2)).Nodup ∧ (asdK hb ts.zipIdx ++ L.map (·.2)).length = ts.length ∧ (∀ k, k < ts.length → ∃ v, lkI (byE hb ts X L) k = some v) ∧
      ((List.range ts.length).map (lk0 (byE hb ts X L))).Perm X ∧ (sumsL n ts ((List.range ts.length).map (lk0 (byE hb ts X L)))).Nodup := by
  have hlt : ∀ t ∈ ts, t.1 < n ∧ t.2 < n ∧ t.1 ≠ t.2 := fun t ht => by have := w.lt t ht; omega
  rw [asdK_rg]
  unfold byE
  rw [asdK_rg]
  have hAnd : (asdN hb ts).Nodup := List.Pairwise.filter _ (List.nodup_range (n := ts.length))
  have hAl : (asdN hb ts).length + (hubN hb ts).length = ts.length := by
    have := (split_perm (ts := ts) hb).length_eq
    simpa using this
  have hBl : (hubN hb ts).length + 1 = n := by rw [hubN_len]; exact w.dg
  have hAm : ∀ k ∈ asdN hb ts, k < ts.length ∧ hasP (ts.getD k (0, 0)) hb = false := fun k hk => asdN_mem.mp hk
  have hn3 := w.n3
  have few := fun (q : Nat) (h1 : q < n) (h2 : q ≠ hb) => asd_few w h1 h2
  generalize hA : asdN hb ts = A at *
  have hA0 := lk0_map (X := X) hAnd (by omega)
  have h0pos : ∀ k, 0 ≤ lk0 (A.zip X) k := fun k => by
    unfold lk0 lkI
    cases hf : (A.zip X).find? (fun p => p.1 == k) with
    | none => simp
    | some q =>
      have := hp q.2 (List.of_mem_zip (List.mem_of_find?_eq_some hf)).2
      simp
      omega
  let S0 := sumsL n ts ((List.range ts.length).map fun k => lk0 (A.zip X) k)
  have hS0l : S0.length = n := sumsL_len _ _ _
  have hS0 : ∀ p, S0.getD p 0 = atP ts (lk0 (A.zip X)) p (List.range ts.length) := fun p => sumsL_atP hlt _ p
  have hSW : S0 = (S0.map Int.toNat).map fun (k : Nat) => (k : Int) := by
    rw [List.map_map]
    have : ∀ x ∈ S0, ((fun (k : Nat) => (k : Int)) ∘ Int.toNat) x = x := fun x hx => by
      obtain ⟨i, hi, e⟩ := List.mem_iff_getElem.mp hx
      have h1 := hS0 i
      rw [List.getD_eq_getElem?_getD, List.getElem?_eq_getElem hi] at h1
      simp only [Option.getD_some] at h1
      have h2 := atP_ge (ts := ts) (lk0 (A.zip X)) i (List.range ts.length) fun k _ => h0pos k
      show ((x.toNat : Nat) : Int) = x
      omega
    rw [List.map_congr_left this, List.map_id']
  obtain ⟨W, hW⟩ : ∃ W, W = S0.map Int.toNat := ⟨_, rfl⟩
  have hSW' : S0 = W.map fun (k : Nat) => (k : Int) := by rw [hW]; exact hSW
  have hWl : W.length = n := by rw [hW, List.length_map, hS0l]
  have hWp : ∀ p, ((W.getD p 0 : Nat) : Int) = atP ts (lk0 (A.zip X)) p (List.range ts.length) := fun p => by
    rw [← hS0, hSW', getD_cast]
  have hLp : (sortT (rowsH hb ts W)).Perm ((hubN hb ts).map fun k => (W.getD (othN hb ts k) 0, k)) := by
    rw [← rowsH_rg]; exact sortT_perm _
  have hLs := sortT_pw (rowsH hb ts W)
  generalize hL : sortT (rowsH hb ts W) = L at *
  have hLm : ∀ r ∈ L, r = (W.getD (othN hb ts r.2) 0, r.2) ∧ r.2 < ts.length ∧ hasP (ts.getD r.2 (0, 0)) hb = true := fun r hr => by
    obtain ⟨k, hk, e⟩ := List.mem_map.mp (hLp.mem_iff.mp hr)
    subst e
    exact ⟨rfl, hubN_mem.mp hk⟩
  have hL2 : (L.map (·.2)).Perm (hubN hb ts) := by
    have := hLp.map (·.2)
    rw [List.map_map] at this
    have e : (hubN hb ts).map ((·.2) ∘ fun k => (W.getD (othN hb ts k) 0, k)) = hubN hb ts := by
      rw [show ((·.2) ∘ fun k => (W.getD (othN hb ts k) 0, k) : Nat → Nat) = id from rfl, List.map_id]
    rw [e] at this
    exact this
  have hLl : L.length + 1 = n := by
    have := hL2.length_eq
    rw [List.length_map] at this; omega
  have hK : (A ++ L.map (·.2)).Perm (List.range ts.length) := by
    have := split_perm (ts := ts) hb
    rw [hA] at this
    exact (List.Perm.append_left A hL2).trans this
  have hKnd : (A ++ L.map (·.2)).Nodup := hK.nodup_iff.mpr (List.nodup_range (n := ts.length))
  have hKl : (A ++ L.map (·.2)).length = ts.length := by rw [hK.length_eq]; simp
  have hKf := lk0_map (X := X) hKnd (by omega)
  have htake : X.take (A ++ L.map (·.2)).length = X := List.take_of_length_le (by omega)
  rw [htake] at hKf
  let f := lk0 ((A ++ L.map (·.2)).zip X)
  have hKf' : A.map f ++ (L.map (·.2)).map f = X := by rw [← List.map_append]; exact hKf
  have hAf : A.map f = X.take A.length := by
    have := congrArg (List.take A.length) hKf'
    rwa [List.take_left' (by simp)] at this
  have hLf : (L.map (·.2)).map f = X.drop A.length := by
    have := congrArg (List.drop A.length) hKf'
    rwa [List.drop_left' (by simp)] at this
  have hff0 : ∀ k ∈ A, f k = lk0 (A.zip X) k := List.map_inj_left.mp (hAf.trans hA0.symm)
  have hf0L : ∀ k ∈ L.map (·.2), lk0 (A.zip X) k = 0 := fun k hk => by
    have hna : k ∉ A := fun h => (List.nodup_append.mp hKnd).2.2 k h k hk rfl
    unfold lk0
    rw [lk_none hna]; rfl
  -- sums
  have hsum : ∀ p, (sumsL n ts ((List.range ts.length).map f)).getD p 0 = ((W.getD p 0 : Nat) : Int) + atP ts f p (L.map (·.2)) := fun p => by
    rw [sumsL_atP hlt, ← atP_perm f p hK, atP_app, hWp, ← atP_perm _ p hK, atP_app]
    have e1 : atP ts (lk0 (A.zip X)) p (L.map (·.2)) = 0 := by
      unfold atP
      rw [sum_congr (g := fun _ => (0 : Int)) fun k hk => by rw [hf0L k hk]; split <;> rfl, sum_zero]
    have e2 : atP ts f p A = atP ts (lk0 (A.zip X)) p A := by
      unfold atP
      exact sum_congr fun k hk => by rw [hff0 k hk]
    rw [e1, e2]
    omega
  -- the places, in the order of their numbers
  have hPnd : (L.map fun r => othN hb ts r.2).Nodup := by
    have := oth_nd w hb (K := L.map (·.2)) (List.nodup_append.mp hKnd).2.1 fun k hk => by
      obtain ⟨r, hr, rfl⟩ := List.mem_map.mp hk
      exact (hLm r hr).2
    rwa [List.map_map] at this
  have hPlt : ∀ r ∈ L, othN hb ts r.2 < n ∧ othN hb ts r.2 ≠ hb := fun r hr => by
    obtain ⟨_, l, z⟩ := hLm r hr
    have h1 := w.lt _ (get_mem l)
    have h2 := other_ne h1.1 z
    unfold othN
    omega
  have hPat : ∀ i, i < L.length → atP ts f ((L.map fun r => othN hb ts r.2).getD i 0) (L.map (·.2)) = (X.drop A.length).getD i 0 := fun i hi => by
    have h1 := one_of (P := L.map fun r => othN hb ts r.2) (Y := X.drop A.length) (i := i) hPnd (by simpa using hi) (by rw [← hLf]; simp)
    rw [← h1, ← hLf]
    have hg : ∃ r ∈ L, (L.map fun r => othN hb ts r.2).getD i 0 = othN hb ts r.2 := ⟨L[i], List.getElem_mem hi, by simp [List.getD_eq_getElem?_getD, List.getElem?_eq_getElem hi]⟩
    obtain ⟨r0, hr0, e0⟩ := hg
    have hq := hPlt r0 hr0
    rw [e0]
    generalize othN hb ts r0.2 = q at *
    have z : ∀ M : List (Nat × Nat), (∀ r ∈ M, r ∈ L) → atP ts f q (M.map (·.2)) = (((M.map fun r => othN hb ts r.2).zip ((M.map (·.2)).map f)).map fun y => if y.1 = q then y.2 else 0).sum := fun M => by
      induction M with
      | nil => intro _; rfl
      | cons r M ih =>
        intro hM
        have ih' := ih fun r hr => hM r (List.mem_cons_of_mem _ hr)
        obtain ⟨_, l, z⟩ := hLm r (hM r (List.mem_cons_self ..))
        have h2 := other_ne (w.lt _ (get_mem l)).1 z
        unfold atP at ih' ⊢
        simp only [List.map_cons, List.zip_cons_cons, List.sum_cons]
        rw [ih']
        congr 1
        have e : (hasP (ts.getD r.2 (0, 0)) q = true) ↔ othN hb ts r.2 = q := by
          unfold othN
          unfold hasP at z ⊢
          rw [Bool.or_eq_true, beq_iff_eq, beq_iff_eq] at z ⊢
          omega
        by_cases hc : othN hb ts r.2 = q
        · rw [if_pos hc, if_pos (e.mpr hc)]
        · rw [if_neg hc, if_neg (fun x => hc (e.mp x))]
    exact z L fun r h => h
  have hHat : atP ts f hb (L.map (·.2)) = (X.drop A.length).sum := by
    rw [← hLf]
    unfold atP
    exact sum_congr fun k hk => by
      obtain ⟨r, hr, rfl⟩ := List.mem_map.mp hk
      rw [if_pos (hLm r hr).2.2]
  have hDl : (X.drop A.length).length = L.length := by rw [← hLf]; simp
  -- what is aside brings little
  have hx0 : 0 < X.getD A.length 0 := hp _ (getD_mem (by omega))
  have hWle : ∀ q, q < n → q ≠ hb → ((W.getD q 0 : Nat) : Int) ≤ ((n : Int) - 2) * (X.getD A.length 0 - 1) := fun q h1 h2 => by
    have e1 : atP ts (lk0 (A.zip X)) q (L.map (·.2)) = 0 := by
      unfold atP
      rw [sum_congr (g := fun _ => (0 : Int)) fun k hk => by rw [hf0L k hk]; split <;> rfl, sum_zero]
    rw [hWp, ← atP_perm _ q hK, atP_app, e1]
    have h3 := atP_le (ts := ts) (lk0 (A.zip X)) q (c := X.getD A.length 0 - 1) A fun k hk => by
      have : lk0 (A.zip X) k ∈ X.take A.length := by rw [← hA0]; exact List.mem_map_of_mem hk
      obtain ⟨i, hi, e⟩ := List.mem_iff_getElem.mp this
      have hi' : i < A.length := by simp at hi; omega
      have h3 := pw_get hs 0 hi' (by omega)
      have e3 : X.getD i 0 = X[i]'(by omega) := by rw [List.getD_eq_getElem?_getD, List.getElem?_eq_getElem (show i < X.length by omega)]; rfl
      rw [List.getElem_take] at e
      omega
    have h4 := few q h1 h2
    have h5 : ((A.countP fun k => hasP (ts.getD k (0, 0)) q : Nat) : Int) * (X.getD A.length 0 - 1) ≤ ((n : Int) - 2) * (X.getD A.length 0 - 1) := Int.mul_le_mul_of_nonneg_right (by omega) (by omega)
    omega
  have hdom : ∀ i, i < L.length → ∀ q, q < n → q ≠ hb → ((W.getD q 0 : Nat) : Int) + (X.drop A.length).getD i 0 < (X.drop A.length).sum := fun i hi q h1 h2 => by
    have h3 := hWle q h1 h2
    have h4 := sum_ge1 (c := X.getD A.length 0) (X.drop A.length) (i := i) (fun y hy => by
      obtain ⟨j, hj, e⟩ := List.mem_iff_getElem.mp hy
      have e2 : (X.drop A.length).getD j 0 = y := by rw [List.getD_eq_getElem?_getD, List.getElem?_eq_getElem hj]; exact e
      rw [getD_drop] at e2
      by_cases hz : j = 0
      · subst hz; rw [Nat.add_zero] at e2; omega
      · have := pw_get hs 0 (show A.length < A.length + j by omega) (by simp at hj; omega)
        omega) (by omega)
    rw [hDl] at h4
    have h5 : (((L.length : Nat) : Int) - 1) = (n : Int) - 2 := by omega
    rw [h5] at h4
    have h6 : ((n : Int) - 2) * (X.getD A.length 0 - 1) = ((n : Int) - 2) * X.getD A.length 0 - ((n : Int) - 2) := by rw [Int.mul_sub]; omega
    omega
  have hW0 : W.getD hb 0 = 0 := by
    have h1 := hWp hb
    rw [← atP_perm _ hb hK, atP_app] at h1
    have e1 : atP ts (lk0 (A.zip X)) hb (L.map (·.2)) = 0 := by
      unfold atP
      rw [sum_congr (g := fun _ => (0 : Int)) fun k hk => by rw [hf0L k hk]; split <;> rfl, sum_zero]
    have e2 : atP ts (lk0 (A.zip X)) hb A = 0 := by
      unfold atP
      rw [sum_congr (g := fun _ => (0 : Int)) fun k hk => by rw [(hAm k hk).2]; rfl, sum_zero]
    omega
  let P := L.map fun r => othN hb ts r.2
  have hPn : (P ++ [hb]).Perm (List.range n) := by
    refine perm_ofN ?_ ?_ ?_
    · rw [List.nodup_append]
      refine ⟨hPnd, by simp, ?_⟩
      rintro x hx y hy rfl
      obtain ⟨r, hr, rfl⟩ := List.mem_map.mp hx
      exact (hPlt r hr).2 (by simpa using hy)
    · intro x hx
      rw [List.mem_range]
      rcases List.mem_append.mp hx with h | h
      · obtain ⟨r, hr, rfl⟩ := List.mem_map.mp h
        exact (hPlt r hr).1
      · have := w.hn
        have : x = hb := by simpa using h
        omega
    · simp [P]; omega
  let s := fun p => (sumsL n ts ((List.range ts.length).map f)).getD p 0
  have hsP : ∀ i, i < L.length → ∃ (r : Nat × Nat), r ∈ L ∧ L.getD i (0, 0) = r ∧ P.getD i 0 = othN hb ts r.2 ∧ s (P.getD i 0) = (r.1 : Int) + (X.drop A.length).getD i 0 := fun i hi => by
    have e0 : P.getD i 0 = othN hb ts (L[i]).2 := by simp [P, List.getD_eq_getElem?_getD, List.getElem?_eq_getElem hi]
    refine ⟨L[i], List.getElem_mem hi, by rw [List.getD_eq_getElem?_getD, List.getElem?_eq_getElem hi]; rfl, e0, ?_⟩
    show (sumsL n ts ((List.range ts.length).map f)).getD (P.getD i 0) 0 = _
    rw [hsum, hPat i hi]
    have := (hLm _ (List.getElem_mem hi)).1
    rw [e0]
    congr 2
    exact (congrArg Prod.fst this).symm
  have hsH : s hb = (X.drop A.length).sum := by
    show (sumsL n ts ((List.range ts.length).map f)).getD hb 0 = _
    rw [hsum, hHat, hW0]
    omega
  have hsort : (P.map s).Pairwise (· < ·) := by
    rw [List.pairwise_iff_getElem]
    intro i j hi hj hij
    have hPl : P.length = L.length := by simp [P]
    have hi' : i < L.length := by simpa [hPl] using hi
    have hj' : j < L.length := by simpa [hPl] using hj
    obtain ⟨r1, m1, g1, _, e1⟩ := hsP i hi'
    obtain ⟨r2, m2, g2, _, e2⟩ := hsP j hj'
    have q1 : (P.map s)[i] = s (P.getD i 0) := by simp [List.getD_eq_getElem?_getD, List.getElem?_eq_getElem (show i < P.length by omega)]
    have q2 : (P.map s)[j] = s (P.getD j 0) := by simp [List.getD_eq_getElem?_getD, List.getElem?_eq_getElem (show j < P.length by omega)]
    rw [q1, q2, e1, e2]
    have h1 := pw_get hLs (0, 0) hij hj'
    rw [g1, g2] at h1
    have h2 := pw_get hs 0 (show A.length + i < A.length + j by omega) (by omega)
    rw [← getD_drop, ← getD_drop] at h2
    have h3 : r1.1 ≤ r2.1 := by
      unfold leT at h1
      rw [Bool.or_eq_true, Bool.and_eq_true, decide_eq_true_eq, decide_eq_true_eq] at h1
      omega
    omega
  have hall : ((P ++ [hb]).map s).Pairwise (· < ·) := by
    rw [List.map_append, List.pairwise_append]
    refine ⟨hsort, by simp, ?_⟩
    intro x hx y hy
    have hy' : y = s hb := by simpa using hy
    obtain ⟨i, hi, e⟩ := List.mem_iff_getElem.mp hx
    have hPl : P.length = L.length := by simp [P]
    have hi' : i < L.length := by simpa [hPl] using hi
    obtain ⟨r, m, _, e0, e1⟩ := hsP i hi'
    have q1 : (P.map s)[i] = s (P.getD i 0) := by simp [List.getD_eq_getElem?_getD, List.getElem?_eq_getElem (show i < P.length by omega)]
    rw [← e, q1, e1, hy', hsH]
    have hrr := (hLm r m).1
    have hpl := hPlt r m
    have := hdom i hi' _ hpl.1 hpl.2
    have hf : r.1 = W.getD (othN hb ts r.2) 0 := congrArg Prod.fst hrr
    rw [← hf] at this
    exact this
  have hnodup : ((List.range n).map s).Nodup := by
    rw [← (hPn.map s).nodup_iff]
    exact hall.imp fun h => by omega
  have hend : (List.range n).map s = sumsL n ts ((List.range ts.length).map f) := by
    apply List.ext_getElem
    · rw [sumsL_len]; simp
    · intro i h1 h2
      simp only [List.getElem_map, List.getElem_range]
      show (sumsL n ts ((List.range ts.length).map f)).getD i 0 = _
      rw [List.getD_eq_getElem?_getD, List.getElem?_eq_getElem h2]; rfl
  refine ⟨W, L, hWl, hSW', hL, hKnd, hKl, fun k hk => ?_, ?_, by rw [← hend]; exact hnodup⟩
  · have : k ∈ A ++ L.map (·.2) := hK.mem_iff.mpr (List.mem_range.mpr hk)
    obtain ⟨i, hi, e⟩ := List.mem_iff_getElem.mp this
    have := lk_zip (X := X) hKnd hi (by omega)
    rw [List.getD_eq_getElem?_getD, List.getElem?_eq_getElem hi] at this
    simp only [Option.getD_some] at this
    rw [e] at this
    exact ⟨_, this⟩
  · have := (hK.map f).symm
    rw [List.map_append, hKf'] at this
    exact this
end
end TN
namespace TN
open PySem PySem.Spec PyProof.Rows L2
/-! ### unlike_by by a hub, unlike_for of kinds -/
section
variable {n : Nat} {ts : List (Nat × Nat)} {hb : Nat}
end
section
variable {n : Nat} {ts : List (Nat × Nat)}
end
end TN
namespace TN
open PySem PySem.Spec PyProof.Rows L2

/-! ### a comprehension over a name's own dict of tuple keys: the dict is held and locked -/
section
variable {K : PySem.W.Frag} {L : L2.St} {B G G1 H H1 : Hp} {σ : L2.St} {ρ : Rho} {a : Addr} {o : HO} {xs : List V} {ds : List D} {j : Nat} {m : Md}
end
section
variable {X : Cx} {elt tg iter : Expr} {ifs : List Expr} {scope : Scope} {own : List (Str × Nat)} {pos : Pos} {ci : CI} {g : D → Rho → Option Rho} {t : CB} {e : CE}
end
end TN
namespace TNO
open TN
open PySem PySem.Spec PyProof.Rows L2
/-! comprehensions over an own dict of ties, told from their end -/
end TNO
namespace TN
open PySem PySem.Spec PyProof.Rows L2
/-! ### the laws' webs with a hub -/
end TN
namespace TN
open PySem PySem.Spec PyProof.Rows L2
/-! ### numbers handed to unlike_by: lists, tuples, in any order; what is none -/
theorem numin_runT {X : List Int} {m : Nat} (hl : X.length = m) (hm : m ≤ 1000) (hp : ∀ x ∈ X, 0 < x) (hn : X.Nodup) : (MM_numbers_in [(.tuple (X.map .int), .fz), (.int (m : Nat), .fz)]).rv = some (.list ((sortI X).map .int), true) := by
  have hXl : (X.map PyData.int).length = m := by rw [List.length_map, hl]
  have hls := fLenSet_t X (by omega)
  have hdd : (ddI X).length = m := by rw [← hl]; exact (dd_nd X).mpr hn
  have hso := fSorted_t X (by omega)
  have hal : fAll [.list (X.map fun _ => PyData.bool true)] = some (.val (.bool true)) := by
    have := fAll_map X (fun _ => true)
    rw [show (X.all fun _ => true) = true by simp] at this
    exact this
  rw [hdd] at hls
  have hlt : fIsLT (.tuple (X.map .int)) = some (.val (.bool true)) := rfl
  with_reducible refine rv_gF (in_numbers_in ?_)
  repeat' (first | (apply gO_of hlt) | array_mem_dec)
  refine TN.cp_map (X) (.int) (fun _ => .bool true) rfl (by (first | omega | (simp; done) | (simp; omega))) (by (first | exact rfl | (repeat (first | exact TN.wOk_nil | ((apply TN.wOk_cons); exact rfl; (first | exact TN.okW_none | exact TN.okW_fz | exact TN.okW_jk | assumption)))))) (by (repeat (first | exact wipe_nil | apply wipe_cons | exact st0 | apply stS))) ?_ ?_
  · intro x hx
    have h0 := hp x hx
    have hwr : (MMWhole [(.int x, .fz)]).rv = some (.bool true, false) := whole_run (.int x)
    repeat' (first | array_mem_dec | ((with_reducible refine TN.c_rv ?_ ?_ hwr ?_); exact rfl; exact rfl))
    exact ⟨by rw [decide_eq_true h0], rfl⟩
  · repeat' (first | (apply gO_of hal) | (apply gO_of hls) | (apply gO_of hso) | array_mem_dec)
    exact ⟨rfl, rfl⟩
/-- numbers in any order, as a list or a tuple -/
theorem unby_any {n : Nat} {ts : List (Nat × Nat)} (h : WebOk n ts) (h3 : 3 ≤ n) (lt : ∀ t ∈ ts, t.1 < t.2 ∧ t.2 < n) (nd : ts.Nodup) (hne : hubL n ts ≠ []) {X : List Int} (hX : X.length = ts.length) (hp : ∀ x ∈ X, 0 < x) (hn : X.Nodup) (hm : ts.length ≤ 900) :
    ∃ V : List Int, V.length = ts.length ∧ V.Perm X ∧ (sumsL n ts V).Nodup ∧ (MM_unlike_by [(webD n ts, .fz), (.list (X.map .int), .fz)]).rv = some (.tuple (V.map .int), false) ∧ (MM_unlike_by [(webD n ts, .fz), (.tuple (X.map .int), .fz)]).rv = some (.tuple (V.map .int), false) := by
  obtain ⟨hb, r, hh⟩ : ∃ hb r, hubL n ts = hb :: r := by
    cases e : hubL n ts with
    | nil => exact absurd e hne
    | cons a r => exact ⟨a, r, rfl⟩
  have w := HubW.of h3 lt nd hh
  have hsp := sortI_perm X
  have hsl : (sortI X).length = ts.length := by rw [hsp.length_eq, hX]
  have hsn : (sortI X).Nodup := hsp.nodup_iff.mpr hn
  have hsp2 : ∀ x ∈ sortI X, 0 < x := fun x hx => hp x (hsp.mem_iff.mp hx)
  have hss : (sortI X).Pairwise (· < ·) := by
    have h1 := sortI_pw X
    have h2 : (sortI X).Pairwise (· ≠ ·) := hsn
    exact List.Pairwise.imp₂ (fun a b hab hne => by omega) h1 h2
  obtain ⟨W, L, hWl, hW, hL, hKn, hKl, hKc, hV, hN⟩ := hub_unlike w hsl hss hsp2
  have hR := byhub_run h hsl hm hWl hW (fun t ht hc => by
    have h1 := lt t ht
    have h2 := other_ne h1.1 hc
    omega) hL hKn hKl hKc
  have h1 := need_run h h3 hh
  have h2 := numin_run hX (by omega) hp hn
  have h3 := numin_runT hX (by omega) hp hn
  have hR2 : (MM_by_hub [(webD n ts, .fz), (.int (hb : Nat), .fz), (.list ((sortI X).map .int), .fz)]).rv = some (.tuple (((List.range ts.length).map (lk0 (byE hb ts (sortI X) L))).map .int), false) := by
    rw [List.map_map]
    exact hR
  refine ⟨(List.range ts.length).map (lk0 (byE hb ts (sortI X) L)), by simp, hV.trans hsp, hN, ?_, ?_⟩
  · generalize ((List.range ts.length).map (lk0 (byE hb ts (sortI X) L))).map PyData.int = VD at *
    generalize (sortI X).map PyData.int = SD at *
    generalize X.map PyData.int = XD at *
    with_reducible refine rv_gF (in_unlike_by ?_)
    repeat' (first | array_mem_dec | ((with_reducible refine TN.c_rv ?_ ?_ h1 ?_); exact rfl; exact rfl) | ((with_reducible refine TN.c_rvT ?_ ?_ h2 ?_); exact rfl; exact rfl) | ((with_reducible refine TN.c_rv ?_ ?_ hR2 ?_); exact rfl; exact rfl))
    all_goals exact ⟨rfl, rfl⟩
  · generalize ((List.range ts.length).map (lk0 (byE hb ts (sortI X) L))).map PyData.int = VD at *
    generalize (sortI X).map PyData.int = SD at *
    generalize X.map PyData.int = XD at *
    with_reducible refine rv_gF (in_unlike_by ?_)
    repeat' (first | array_mem_dec | ((with_reducible refine TN.c_rv ?_ ?_ h1 ?_); exact rfl; exact rfl) | ((with_reducible refine TN.c_rvT ?_ ?_ h3 ?_); exact rfl; exact rfl) | ((with_reducible refine TN.c_rv ?_ ?_ hR2 ?_); exact rfl; exact rfl))
    all_goals exact ⟨rfl, rfl⟩
end TN
/-! ### t.index(k), t a tuple of whole numbers, k one of them -/
namespace TN
open PySem PySem.Spec PyProof.Rows L2
section
variable {X : Cx} {o e : Expr} {es : List Expr} {co : CE} {ca : CA} {apos cpos : Pos} {id : String} {name : Str} {r : V → List V → Hp → VK → Prop} {f : D → List D → Option Pl}
end
end TN
namespace TNO
open PySem PySem.Spec PyProof.Rows L2 TN
end TNO
namespace TN
open PySem PySem.Spec PyProof.Rows L2
end TN
namespace TN
open PySem PySem.Spec PyProof.Rows L2
/-! the package's growing, bars, mirrors, joins -/
/-! ### webs grown -/
end TN
namespace TN
open PySem PySem.Spec PyProof.Rows L2
/-! ### the bars of steps -/
end TN
namespace TN
open PySem PySem.Spec PyProof.Rows L2
/-! ### f(a, b, g(..)): the last of three arguments a new list, lent -/
section
variable {X : Cx} {k : Nat} {f : Addr} {fd : FuncData} {pn : List Str} {M : FM} {x : Str} {p pos : Pos} {a b e : Expr} {c1 c2 c3 : CE}
end
end TN
namespace TNO
open PySem PySem.Spec PyProof.Rows L2 TN
end TNO
namespace TN
open PySem PySem.Spec PyProof.Rows L2
end TN
namespace TN
open PySem PySem.Spec PyProof.Rows L2
/-! ### webs joined at a place -/
section
variable {n m : Nat} {ts us : List (Nat × Nat)} {N M : List Int} {t u : Int}
end
end TN
namespace TNO
open PySem PySem.Spec PyProof.Rows L2 TN
end TNO
namespace TN
open PySem PySem.Spec PyProof.Rows L2
/-! ### joined_webs run -/
section
variable {n m : Nat} {ts us : List (Nat × Nat)} {N M : List Int} {t : Int}
end
/-- what goes on when both are right -/
structure JoinS (n : Nat) (ts : List (Nat × Nat)) (N : List Int) (m : Nat) (us : List (Nat × Nat)) (M : List Int) (t : Int) : Prop where
  w1 : WebOk n ts
  w2 : WebOk m us
  g1 : Gr n ts N
  g2 : Gr m us M
  h0 : ts ≠ []
  ht : Par N ts t
  nl : n ≤ 300
  ml : m ≤ 300
  tl : ts.length ≤ 300
  ul : us.length ≤ 300
end TN
namespace TN
open PySem PySem.Spec PyProof.Rows L2
/-! ### what is good is such; joined webs, whole -/
section
variable {n m : Nat} {ts us : List (Nat × Nat)} {N M : List Int} {t u : Int}
end
end TN
namespace TN
open PySem PySem.Spec PyProof.Rows L2
/-! ### the laws' parted webs -/
end TN
namespace TN
open PySem PySem.Spec PyProof.Rows L2

/-! ### repr: defs that are called where nothing is being shown -/
theorem RoomG.mono {j k : Nat} {A : Around} (r : RoomG k A) (h : j ≤ k) : RoomG j A := ⟨r.rm.mono h, r.gd⟩
theorem RoomG.deeper {k : Nat} {A : Around} (r : RoomG (k + 1) A) (env : Env) : RoomG k (A.deeper env) := ⟨r.rm.deeper env, r.gd⟩
section
variable {X : Cx} {k : Nat}
end
/-! ### {} == a tuple -/
open Sem in
open Sem in
section
variable {X : Cx} {k : Nat}
end
/-! ### such defs -/
theorem FnG.mono {P : Program} {w : World} {K : PySem.W.Frag} {mg : Str → Option Value} {base : Heap} {CX : CXT} {j k : Nat} {f : Addr} {fd : FuncData} {ps : List Str} {sp : L2.Sp} (F : FnG P w K mg base CX j f fd ps sp) (h : j ≤ k) : FnG P w K mg base CX k f fd ps sp :=
  ⟨F.len, fun A outer s H args us vs Q E hr => F.run A outer s H args us vs Q E (hr.mono h)⟩
section
variable {X : Cx} {k n : Nat} {f : Addr} {fd : FuncData} {pn : List Str} {M : FM} {x : Str} {p pos : Pos} {e : Expr} {es : List Expr} {cr : CA}
end
structure CalleeG (P : Program) (w : World) (K : PySem.W.Frag) (mg : Str → Option Value) (base : Heap) (k : Nat) (x : Str) (n : Nat) (M : FM) : Prop where
  ex : ∃ (f : Addr) (fd : FuncData) (pn : List Str), FnG P w K mg base (L2.CX P w) k f fd pn (spF K mg n M) ∧ mg x = some (.ref f) ∧ PySem.W.keepIn K (.ref f) = true ∧ Binds K fd pn []
theorem CalleeG.up {P : Program} {w : World} {K : PySem.W.Frag} {mg : Str → Option Value} {base : Heap} {k : Nat} {x : Str} {n : Nat} {M : FM} (c : CalleeG P w K mg base k x n M) {j : Nat} (h : k ≤ j) : CalleeG P w K mg base j x n M := by
  obtain ⟨f, fd, pn, h1, h2, h3, h4⟩ := c.ex
  exact ⟨f, fd, pn, h1.mono h, h2, h3, h4⟩
/-! ### the top: nothing is being shown there -/
/-! ### sum(range(..)) -/
section
variable {prog : Program} {w : World} {A : Around} {E : Value → Shared → Prop} {s : Shared} {r : Addr} {a b : Int} {t u v : Tok} {Q : Value → Shared → Prop}
end
section
variable {X : Cx} {e : Expr} {cr : Rho → R (Int × Int)} {p pos : Pos} {te : L2.St → Hp → (Int → Int → Hp → Prop) → Prop}
end
end TN
namespace TN
open PySem PySem.Spec PyProof.Rows L2
/-! ### list(d.values()) -/
section
variable {X : Cx} {e o : Expr} {ta td : TE} {p pos apos mpos : Pos} {c : CE}
end
/-! ### words of the module -/
structure KW (K : PySem.W.Frag) (mg : Str → Option Value) (x : Str) (ws : List Str) : Prop where
  glo : mg x = some (.ref (He.ga K x))
  tup : ∀ H : Hp, SqT K H (He.ga K x) (ws.map V.str)
def opInW (n : Bool) (ws : List Str) (d : D) : Option Pl := if SeqAt.shaped d = true ∧ SeqAt.shaped (.tuple (ws.map .str)) = true then some (.val (.bool (if n = true then !((ws.map PyData.str).any fun z => PyData.eqv z d) else (ws.map PyData.str).any fun z => PyData.eqv z d))) else none
section
variable {X : Cx} {x : Str} {ws : List Str} {e tg : Expr} {c : CE} {pos p : Pos}
end
/-! ### the head, with these -/
/-! ### walks -/
end TN
namespace TN
open PySem PySem.Spec PyProof.Rows L2
/-! ### a piece with two sides (theory) -/
section
variable {n : Nat} {ts : List (Nat × Nat)} {p : Nat}
structure Col (ts : List (Nat × Nat)) (p : Nat) (S : Nat → Nat) : Prop where
  le : ∀ v, S v ≤ 1
  ne : ∀ t ∈ ts, mkN ts t.1 = mkN ts p → S t.1 ≠ S t.2
  at0 : S p = 0
/-! the piece by itself -/
/-! the law's walk through the piece -/
structure Lw (n : Nat) (ts : List (Nat × Nat)) (p : Nat) (l : List (Nat × Nat)) (f hot : List Nat) : Prop where
  nd : (ks l).Nodup
  lt : ∀ k ∈ ks l, k < n
  m0 : p ∈ ks l
  at0 : sv l p = 0
  le : ∀ q ∈ l, q.2 ≤ 1
  rt : ∀ k ∈ ks l, mkN ts k = mkN ts p
  col : ∀ S, Col ts p S → ∀ k ∈ ks l, sv l k = S k
  fr : ∀ x ∈ f, x ∈ ks l
  cl : ∀ k ∈ ks l, k ∉ f → k ∉ hot → ∀ o ∈ nbrs ts k, o ∈ ks l ∧ sv l o ≠ sv l k
end
end TN
namespace TN
open PySem PySem.Spec PyProof.Rows L2
end TN
namespace TN
open PySem PySem.Spec PyProof.Rows L2
section
variable {n : Nat} {ts : List (Nat × Nat)} {p : Nat}
/-! ### the even bars, each looked at -/
end
end TN
namespace TN
open PySem PySem.Spec PyProof.Rows L2
section
variable {n : Nat} {ts : List (Nat × Nat)} {p : Nat}
/-! ### the law's two sides -/
end
end TN
namespace TN
open PySem PySem.Spec PyProof.Rows L2
section
variable {n : Nat} {ts : List (Nat × Nat)} {p : Nat}
end
end TN
namespace TN
open PySem PySem.Spec PyProof.Rows L2
inductive EB | lone | count | en (p : Nat) | pair (a b : Nat) | sides (p : Nat) | poor (p : Nat) | rich (p : Nat)
section
variable {n : Nat} {ts : List (Nat × Nat)} {p : Nat}
end
end TN
namespace TN
open PySem PySem.Spec PyProof.Rows L2
abbrev ldL : List D := [.str "lone", .int 1, .str "count", .int 1, .str "pair", .int 3]
abbrev wdL : List Str := ["lone", "count", "end", "pair", "sides", "poor", "rich"]
abbrev wdD : List D := [.str "lone", .str "count", .str "end", .str "pair", .str "sides", .str "poor", .str "rich"]
structure EWd (w : Str) (k : Int) (b1 b2 : Bool) : Prop where
  inW : opInW true wdL (.str w) = some (.val (.bool false))
  ni : opNotIn (.str w) (.list wdD) = some (.val (.bool false))
  gt : ∃ o, (∀ prs, pairsOf ldL = some prs → dGet (mrgD [] prs) (.str w) = some o) ∧ o.getD (.int 2) = .int k
  n2 : opNotIn (.str w) (.list [.str "lone", .str "count"]) = some (.val (.bool b1))
  e2 : opEq (.str w) (.str "pair") = some (.val (.bool b2))
  sum : (1 : Int) + (if b1 = true then 1 else 0) + (if b2 = true then 1 else 0) = k
  k1 : k ≤ 3
section
variable {n : Nat} {ts : List (Nat × Nat)}
end
end TN
namespace TN
open PySem PySem.Spec PyProof.Rows L2
section
variable {n : Nat} {ts : List (Nat × Nat)}
end
end TN
namespace TN
open PySem PySem.Spec PyProof.Rows L2
section
variable {n : Nat} {ts : List (Nat × Nat)} {p : Nat}
theorem in_lints (x : Int) (ns : List Int) : opIn (.int x) (.list (ns.map .int)) = some (.val (.bool (decide (x ∈ ns)))) := by
  have h : SeqAt.shaped (.int x) = true ∧ SeqAt.shaped (.list (ns.map .int)) = true := ⟨rfl, shaped_ints _⟩
  unfold opIn seqOf
  simp only [if_pos h, any_intsL]
end
end TN
namespace TN
open PySem PySem.Spec PyProof.Rows L2
end TN
namespace TN
open PySem PySem.Spec PyProof.Rows L2
section
variable {n : Nat} {ts : List (Nat × Nat)}
end
end TN
namespace TN
open PySem PySem.Spec PyProof.Rows L2
/-! ### an even numbering leaves no bar -/
/-! sums over places -/
/-! distinct numbers -/
end TN
namespace TN
open PySem PySem.Spec PyProof.Rows L2
section
variable {n : Nat} {ts : List (Nat × Nat)} {Z : List ((Nat × Nat) × Int)} {s : Int}
theorem EvN.has (e : EvN n ts Z s) {t : Nat × Nat} (ht : t ∈ ts) : ∃ q ∈ Z, q.1 = t := by rw [← e.e1] at ht; exact List.mem_map.mp ht
end
end TN
namespace TN
open PySem PySem.Spec PyProof.Rows L2
/-! ### a list that is lent gone through by for, and lent still behind -/
section
variable {X : Cx} {st : Stmt} {sts : List Stmt} {a b : CS} {j : Nat}
end
section
variable {P : Program} {w : World} {K : PySem.W.Frag} {mg : Str → Option Value} {base : Heap} {x qual : Str} {params : Arguments} {body : List Stmt} {scope : Scope} {f : Addr} {fd : FuncData}
end
end TN
namespace TNO
open PySem PySem.Spec PyProof.Rows L2 TN
end TNO
namespace TN
open PySem PySem.Spec PyProof.Rows L2
end TN
namespace TNO
open PySem PySem.Spec PyProof.Rows L2 TN
/-! exceptions that leave known slots behind -/
end TNO
namespace TN
open PySem PySem.Spec PyProof.Rows L2
/-! a tie in a list of ties; a list of two in a list of such -/
/-- a list of shaped things that are not too deep is shaped -/
theorem shaped_lst {ds : List D} {k : Nat} (h : ∀ d ∈ ds, d.canLay0 = true ∧ d.depth ≤ k) (hk : k ≤ 40) : SeqAt.shaped (.list ds) = true := by
  have h1 : PyData.canLayAll0 ds = true ∧ PyData.depthAll ds ≤ k := by
    induction ds with
    | nil => exact ⟨by simp [PyData.canLayAll0], by simp [PyData.depthAll]⟩
    | cons d ds ih =>
      obtain ⟨a, b⟩ := ih fun x hx => h x (List.mem_cons_of_mem _ hx)
      obtain ⟨c, e⟩ := h d (List.mem_cons_self ..)
      exact ⟨by simp [PyData.canLayAll0, a, c], by simp [PyData.depthAll]; omega⟩
  have h2 := h1.2
  unfold SeqAt.shaped
  simp only [PyData.canLay0, PyData.depth, h1.1, Bool.true_and]
  exact decide_eq_true (by omega)
end TN
namespace TN
open PySem PySem.Spec PyProof.Rows L2
/-- statements whose meaning is never asked for (recursion without fuel) -/
theorem sss_never {X : Cx} {sts : List Stmt} : SSs X sts cNever := fun W _ _ => ⟨fun pins s σ H D I q => by
  obtain ⟨L, ρ, G, B, rel, h⟩ := q
  exact h.elim⟩
end TN
namespace TN
open PySem PySem.Spec PyProof.Rows L2
/-! ### texts: split, join, slices, int(text), a sign in a text, a module's text -/
/-! slices of texts -/
/-! tuples of whole numbers, in order -/
end TN
namespace TNO
open PySem PySem.Spec PyProof.Rows L2 TN
end TNO
namespace TN
open PySem PySem.Spec PyProof.Rows L2
end TN
namespace TN
open PySem PySem.Spec PyProof.Rows L2
/-! ### texts of webs, plainly -/
end TN
namespace TN
open PySem PySem.Spec PyProof.Rows L2
/-! a text so many times -/
end TN
namespace TN
open PySem PySem.Spec PyProof.Rows L2

/-! ### objects of own classes: what must be known of a class with these fields -/
theorem ob_of {K : PySem.W.Frag} {os : List (Str × List Str)} (h : obAll os K = true) {x : Str} {fs : List Str} (hx : (x, fs) ∈ os) : ObK K (He.ga K x) ∧ ∀ f ∈ fs, NoAttr K (He.ga K x) f := by
  have q := List.all_eq_true.mp h _ hx
  unfold obB at q
  obtain ⟨h1, q⟩ := He.ba q
  obtain ⟨h2, q⟩ := He.ba q
  obtain ⟨h3, q⟩ := He.ba q
  obtain ⟨h4, q⟩ := He.ba q
  obtain ⟨h5, q⟩ := He.ba q
  obtain ⟨h6, h7⟩ := He.ba q
  exact ⟨⟨He.cls_ok h1, of_decide_eq_true h2, of_decide_eq_true h3, of_decide_eq_true h4, of_decide_eq_true h5, h6⟩, fun f hf => He.noat_ok (List.all_eq_true.mp h7 f hf)⟩
/-! ### the head -/
theorem obsO_eq {n : Nat} {fa : List He.Fa} {fn : List He.DefD} {cs : List Str} {rs os : List (Str × List Str)} {g : Addr → Option Obj} {s : Shared} (h : ∀ a, g a = s.heap.get? a) : obsO n fa fn cs rs os g = (hookO n fa fn cs rs os).obs s := by
  have e : g = s.heap.get? := funext h
  rw [e] <;> rfl
theorem law_endO {l : PySem.W.OpenLaw} {k m : Nat} {fa : List He.Fa} {fn : List He.DefD} {cs : List Str} {rs os : List (Str × List Str)} {q : Program} {loose : List Str} {XP : (Str → Option Value) → Heap → Prop} {d : DefRec} {x : Str} {M : FM}
    (hn : l.most = some 63) (hdf : d.params.defaults = []) (hd : d.name = ("law" : Str)) (hr : Room k callerA)
    (F : ∀ (w : World) (K : PySem.W.Frag) (mg : Str → Option Value) (f : Addr) (h : Heap), K.In h → h.Ns mainGlobals mg → mg "law" = some (.ref f) → He.SaysD fa fn K → exAll cs K = true → oxAll rs K = true → obAll os K = true →
      ∃ fd : FuncData, (∀ (s : Shared) (u : Value), BindsTo s fd ⟨[u], []⟩ [(x, u)]) ∧ ∀ base : Heap, K.In base → base.Ns mainGlobals mg → FnOk l.prog w K mg base (L2.CX l.prog w) k f fd [x] (spF K mg 1 M))
    (hM : ∀ ns : List Int, ns.length ≤ 63 → ∃ outs, M [(.list (ns.map PyData.int), .fz)] = .ok (.bool true) false outs) :
    PySem.W.WalkO q loose XP (hookO m fa fn cs rs os).says l.row.toRowW d [] (fun f vs => PySem.call f vs) := by
  refine Att.attach_call hn hdf fun w s₀ s₁ mg mb fa o pm cd doc a vs ns G Y ho hd' hcd hmg hobj hints hlen hg => ?_
  obtain ⟨K, KX, nl, c, cx, co, cb⟩ := Y
  rw [hd] at hmg
  obtain ⟨fd, hb, hF⟩ := F w K mg fa _ KX G.T.g hmg c cx co cb
  exact law_call KX G.T.g G.T.b G.T.builtins G.T.nolimit hg hobj hints (Nat.le_trans hlen (by decide)) hr hF hb (fun H hO hS => sp_law hM H a ns hlen (nl.rd hS)) fun H e s' => no_exc H s₁ e s'

/-! ### fields -/
def okF (os : List (Str × List Str)) (cls f : Str) : Bool := os.any fun p => decide (p.1 = cls) && p.2.contains f
theorem okF_no {K : PySem.W.Frag} {os : List (Str × List Str)} (h : obAll os K = true) {cls f : Str} (q : okF os cls f = true) : NoAttr K (He.ga K cls) f := by
  obtain ⟨⟨x, fs⟩, hx, hp⟩ := List.any_eq_true.mp q
  rw [Bool.and_eq_true] at hp
  obtain ⟨h1, h2⟩ := hp
  have h1 : x = cls := of_decide_eq_true h1
  subst h1
  exact (ob_of h hx).2 f (by simpa using h2)
def opFldO (os : List (Str × List Str)) (f : Str) : D → Option Pl
  | .dict ((.bool false, .str cls) :: r) => if okF os cls f = true then (lookS f r).map .val else none
  | _ => none
theorem opFldO_at {K : PySem.W.Frag} {os : List (Str × List Str)} (co : obAll os K = true) {G H : Hp} {v : V} {d : D} {f : Str} {pl : Pl} (s : Same G H) (h : Vw K G H v d) (e : opFldO os f d = some pl) :
    ∃ (a dx : Addr) (cls : Str) (fs : List (Str × V)) (ds : List (Str × D)) (d' : D) (w : V), v = .ref a ∧ pl = .val d' ∧ H a = some (.ins (He.ga K cls) dx fs) ∧ ObK K (He.ga K cls) ∧ d = obD cls ds ∧ NoAttr K (He.ga K cls) f ∧ FzN K G fs ds ∧ fs.lookup f = some w ∧ Fz K G w d' := by
  unfold opFldO at e
  split at e
  · rename_i cls r
    obtain ⟨a, dx, cls', fs, ds, rfl, ed, x1, x2, x3⟩ := h.obAt s rfl
    unfold obD at ed
    cases ed
    split at e
    · rename_i hok
      cases hl : lookS f (ds.map fun p => (PyData.str p.1, p.2)) with
      | none => rw [hl] at e; cases e
      | some d' =>
        rw [hl] at e
        cases e
        obtain ⟨w, h2, h3⟩ := x3.look hl
        exact ⟨a, dx, cls, fs, ds, d', w, rfl, rfl, x1, x2, rfl, okF_no co hok, x3, h2, h3⟩
    · cases e
  · cases e
theorem sx_fldO {X : Cx} {os : List (Str × List Str)} {e : Expr} {c : CE} {f : Str} {pos : Pos} (co : obAll os X.K = true) (ha : SX X e c) (hb : attributeBase e f X.env (eval e X.env) = eval e X.env := by rfl) : SX X (.Attribute e f pos) (cUn (opFldO os f) c) := fun W tk =>
  PEimp (L2.pe_fld (ha W tk) hb) (by
  rintro σ H Q ⟨L, ρ, G, B, rel, h⟩
  refine ⟨L, ρ, G, B, rel, (Got.bind h).mono ?_⟩
  rintro v H1 ⟨q, ρ1, G1, _, rel1, _, fx1, h1⟩
  cases e1 : look q ρ1 with
  | none => simp only [e1] at h1; exact h1.elim
  | some d =>
    simp only [e1] at h1
    have hvw := fx1.look rel1 e1
    cases e3 : opFldO os f d with
    | none => simp only [e3] at h1; exact h1.elim
    | some pl =>
      simp only [e3] at h1
      obtain ⟨a, dx, cls, fs, ds, d', w, rfl, rfl, x1, x2, _, hok, _, hw, fz⟩ := opFldO_at co rel1.sub hvw e3
      exact ⟨a, _, dx, fs, w, rfl, x1, x2.cl, hok, hw, h1 w H1 G1 rel1 .refl fz⟩)
/-- a field anew -/
def putS (f : Str) (d : D) : List (D × D) → List (D × D)
  | [] => [(.str f, d)]
  | (.str g, x) :: r => if g = f then (.str g, d) :: r else (.str g, x) :: putS f d r
  | x :: r => x :: putS f d r
def putN (f : Str) (d : D) : List (Str × D) → List (Str × D)
  | [] => [(f, d)]
  | (g, x) :: r => if g = f then (g, d) :: r else (g, x) :: putN f d r
theorem putS_map (f : Str) (d : D) : ∀ ds : List (Str × D), putS f d (ds.map fun p => (PyData.str p.1, p.2)) = (putN f d ds).map fun p => (PyData.str p.1, p.2)
  | [] => rfl
  | (g, x) :: r => by
    simp only [List.map_cons, putS, putN]
    split
    · rfl
    · rw [putS_map f d r]; rfl
theorem FzN.putV {K : PySem.W.Frag} {G : Hp} {f : Str} {v : V} {d : D} (h : Fz K G v d) : ∀ {fs : List (Str × V)} {ds : List (Str × D)}, FzN K G fs ds → FzN K G (L2.putF f v fs) (putN f d ds)
  | _, _, .nil => .cons h .nil
  | _, _, .cons (f := g) a b => by
    simp only [L2.putF, putN]
    split
    · exact .cons h b
    · exact .cons a (FzN.putV h b)
theorem FzN.lookN {K : PySem.W.Frag} {G : Hp} {f : Str} : ∀ {fs : List (Str × V)} {ds : List (Str × D)}, FzN K G fs ds → lookS f (ds.map fun p => (.str p.1, p.2)) = none → fs.lookup f = none
  | _, _, .nil, _ => rfl
  | _, _, .cons (f := g) (v := v) a b, h => by
    simp only [List.map_cons, lookS] at h
    by_cases e : f = g
    · rw [if_pos e] at h; cases h
    · rw [if_neg e] at h
      rw [lookup_put, if_neg e]
      exact FzN.lookN b h
def setFld (os : List (Str × List Str)) (f : Str) (d : D) : D → Option D
  | .dict ((.bool false, .str cls) :: r) => if (okF os cls f && decide (r.length < 1000)) = true then some (.dict ((.bool false, .str cls) :: putS f d r)) else none
  | _ => none
/-- o.f = .. , o an own (or lent) object -/
theorem setFld_ok {K : PySem.W.Frag} {os : List (Str × List Str)} {G H : Hp} {a : Addr} {o o' d : D} {f : Str} {v : V} (co : obAll os K = true) (s : Same G H) (c : Cont K G H a o) (h : setFld os f d o = some o') (fz : Fz K G v d) :
    ∃ (cls : Str) (ds : List (Str × D)) (dx : Addr) (fs : List (Str × V)), o = obD cls ds ∧ H a = some (.ins (He.ga K cls) dx fs) ∧ Cls K (He.ga K cls) ∧ NoAttr K (He.ga K cls) f ∧ fs.length < 1000 ∧ ∀ H' : Hp, H' a = some (.ins (He.ga K cls) dx (L2.putF f v fs)) → Cont K G H' a o' := by
  unfold setFld at h
  split at h
  · rename_i cls r
    split at h
    · rename_i hk
      rw [Bool.and_eq_true] at hk
      obtain ⟨hk, hl⟩ := hk
      have hl := of_decide_eq_true hl
      cases h
      have hvw : Vw K G H (.ref a) (.dict ((.bool false, .str cls) :: r)) := .inr ⟨a, rfl, c⟩
      obtain ⟨a', dx, cls', fs, ds, e, ed, x1, x2, x3⟩ := hvw.obAt s rfl
      cases e
      unfold obD at ed
      cases ed
      refine ⟨_, ds, dx, fs, rfl, x1, x2.cl, okF_no co hk, by rw [x3.len]; simpa using hl, fun H' hH => ?_⟩
      rw [putS_map]
      exact .ob hH x2 (x3.putV fz)
    · cases h
  · cases h
def cFldS (os : List (Str × List Str)) (i : Nat) (f : Str) (c : CE) : CS := fun ρ => match cFz c some ρ with
  | .ok d ρ1 => (match ownAt i ρ1 with
    | some (o, m) => (match setFld os f d o with
      | some o' => .nx (ρ1.set i (some (o', m)))
      | none => .bad)
    | none => .bad)
  | _ => .bad
section
variable {X : Cx} {x : Str} {value : Expr} {c : CE} {f : Str} {px pos pos' : Pos} {os : List (Str × List Str)}
theorem tX_mono {W : WX} {σ : L2.St} {H : Hp} {Q Q' : VK} (h : tX X W c σ H Q) (w : ∀ v H', Q v H' → Q' v H') : tX X W c σ H Q' := by
  obtain ⟨L, ρ, G, B, rel, g⟩ := h
  exact ⟨L, ρ, G, B, rel, g.mono w⟩
theorem ss_fldS (i : Nat) (co : obAll os X.K = true) (he : SX X value c) (hN : X.N[i]? = some x := by rfl) (hv : Vis X.env.scope x := by first | exact Or.inl rfl | exact Or.inr (Or.inl rfl) | exact Or.inr (Or.inr rfl)) (hd : (x == ("__debug__" : Str)) = false := by decide) (hcd : (x == ("__classdict__" : Str)) = false := by decide)
    (hs : swapsWith value (some (.Attribute (.Name x px) f pos')) pos.line X.env = pure false := by rfl) : SS X (.Assign [.Attribute (.Name x px) f pos'] value pos) (cFldS os i f c) := fun W tk _ =>
  PSimp (L2.ps_fld (pe_var hN hv hd hcd) (he W tk) hs) (by
  rintro D σ H ⟨L, ρ, G, B, rel, h⟩
  unfold cFldS at h
  cases q : cFz c some ρ with
  | bad => simp only [q] at h; exact h.elim
  | exc y ρ1 => simp only [q] at h; exact h.elim
  | ok d ρ1 =>
    simp only [q] at h
    refine tX_mono (fz_run (W := W) rel q) ?_
    rintro v H1 ⟨G2, rel1, ext1, fz⟩
    cases e1 : ownAt i ρ1 with
    | none => simp only [e1] at h; exact h.elim
    | some om =>
      obtain ⟨o, m⟩ := om
      simp only [e1] at h
      cases e2 : setFld os f d o with
      | none => simp only [e2] at h; exact h.elim
      | some o' =>
        simp only [e2] at h
        obtain ⟨o1, o2⟩ := ownAt_ok e1
        obtain ⟨v', h1, h2⟩ := rel1.slots i _ o1
        obtain ⟨a, rfl, hG, hB, ct⟩ := h2.own o2
        obtain ⟨cls, ds, dx, fs, _, x1, x2, x3, x4, x5⟩ := setFld_ok co rel1.sub ct e2 fz
        exact ⟨.ref a, h1, a, _, dx, fs, rfl, x1, x2, x3, x4, h σ _ G2 (rel1.mut o1 o2 h1 (x5 _ upd_same)) ext1⟩)
/-- o.f += k -/
def cFldA (os : List (Str × List Str)) (i : Nat) (f : Str) (k : Int) : CS := fun ρ => match ownAt i ρ with
  | some (o, m) => (match opFldO os f o with
    | some (.val (.int j)) => (match setFld os f (.int (j + k)) o with
      | some o' => .nx (ρ.set i (some (o', m)))
      | none => .bad)
    | _ => .bad)
  | none => .bad
theorem ss_fldA (i : Nat) {k : Int} {tpos : Pos} (co : obAll os X.K = true) (he : SX X value (cLit (.int k))) (hN : X.N[i]? = some x := by rfl) (hv : Vis X.env.scope x := by first | exact Or.inl rfl | exact Or.inr (Or.inl rfl) | exact Or.inr (Or.inr rfl)) (hd : (x == ("__debug__" : Str)) = false := by decide) (hcd : (x == ("__classdict__" : Str)) = false := by decide) :
    SS X (.AugAssign (.Attribute (.Name x px) f tpos) .Add value pos) (cFldA os i f k) := fun W tk _ =>
  PSimp (L2.ps_fldaug (pe_var hN hv hd hcd) (he W tk) in_add) (by
  rintro D σ H ⟨L, ρ, G, B, rel, h⟩
  unfold cFldA at h
  cases e1 : ownAt i ρ with
  | none => simp only [e1] at h; exact h.elim
  | some om =>
    obtain ⟨o, m⟩ := om
    simp only [e1] at h
    split at h
    · rename_i j hj
      cases e2 : setFld os f (.int (j + k)) o with
      | none => simp only [e2] at h; exact h.elim
      | some o' =>
        simp only [e2] at h
        obtain ⟨o1, o2⟩ := ownAt_ok e1
        obtain ⟨v', h1, h2⟩ := rel.slots i _ o1
        obtain ⟨a, rfl, hG, hB, ct⟩ := h2.own o2
        obtain ⟨a', dx', cls, fs, ds, d', w, e, ep, x1, x2, ed, hok, _, hw, fz⟩ := opFldO_at co rel.sub (.inr ⟨a, rfl, ct⟩) hj
        cases e
        cases ep
        have : w = .int j := by cases fz; rfl
        subst this
        refine ⟨.ref a, h1, a, _, dx', fs, .int j, rfl, x1, x2.cl, hok, hw, L, ρ, G, B, rel, ?_⟩
        intro v H' G' r ext ok
        have ok : Fz X.K G' v (.int k) := ok
        have : v = .int k := by cases ok; rfl
        subst this
        obtain ⟨v2, z1, z2⟩ := r.slots i _ o1
        rw [h1] at z1; cases z1
        obtain ⟨a2, e3, hG', hB', ct'⟩ := z2.own o2
        cases e3
        obtain ⟨cls2, ds2, dx2, fs2, w0, w1, w2, w3, w4, w5⟩ := setFld_ok co r.sub ct' e2 (Fz.int (j + k))
        have hc : cls2 = cls := by
          have := ed.symm.trans w0
          unfold obD at this
          simp only [PyData.dict.injEq, List.cons.injEq, Prod.mk.injEq, PyData.str.injEq, true_and] at this
          exact this.1.symm
        subst hc
        exact ⟨j, k, rfl, rfl, dx2, fs2, w1, w4, h σ _ G' (r.mut o1 o2 h1 (w5 _ upd_same)) ext⟩
    · exact h.elim)
end

/-! ### methods -/
structure CalleeM (P : Program) (w : World) (K : PySem.W.Frag) (mg : Str → Option Value) (base : Heap) (k : Nat) (cls m : Str) (n : Nat) (M : FM) : Prop where
  ex : ∃ (fd : FuncData) (pn : List Str), FnOk P w K mg base (L2.CX P w) k (He.ma K (He.ga K cls) m) fd pn (spF K mg (n + 1) M) ∧ Binds K fd pn []
  cl : Cls K (He.ga K cls)
  me : Meth K (He.ga K cls) m (He.ma K (He.ga K cls) m)
theorem CalleeM.up {P : Program} {w : World} {K : PySem.W.Frag} {mg : Str → Option Value} {base : Heap} {k : Nat} {cls m : Str} {n : Nat} {M : FM} (c : CalleeM P w K mg base k cls m n M) {j : Nat} (h : k ≤ j) : CalleeM P w K mg base j cls m n M := by
  obtain ⟨fd, pn, h1, h2⟩ := c.ex
  exact ⟨⟨fd, pn, h1.mono h, h2⟩, c.cl, c.me⟩
def tMethE (C : Addr) (m : Str) (sp : L2.Sp) (E : L2.St → XK) (ta : TE) (t : TA) : TE := fun σ H Q => ta σ H fun x H1 => ∃ a dx fs, x = .ref a ∧ H1 a = some (.ins C dx fs) ∧ fs.lookup m = none ∧ t σ H1 fun vs H2 => sp (x :: vs) H2 Q (E σ)
def tMakeE (C : Addr) (sp : L2.Sp) (E : L2.St → XK) (t : TA) : TE := fun σ H Q => t σ H fun vs H1 => ∀ x dx, H1 x = none → H1 dx = none → dx ≠ x →
  sp (.ref x :: vs) (upd (upd H1 dx (.own x)) x (.ins C dx [])) (fun v H2 => v = .non ∧ Q (.ref x) H2) (E σ)
section
variable {X : Cx} {CX : CXT} {k : Nat} {f C : Addr} {fd : FuncData} {ps : List Str} {sp : L2.Sp} {E : L2.St → XK} {x m : Str} {p pos apos : Pos} {e o : Expr} {es : List Expr} {ta : TE} {t : TA}
theorem pe_methE {pl : Sem Bool} (he : PE X o ta) (c : Cls X.K C) (hm : Meth X.K C m f) (F : FnOk X.prog X.w X.K X.mg X.base CX k f fd ps sp) (hr : Room k X.A) (hb : Binds X.K fd ps []) (hx : ∀ σ, PassesAt CX X σ (E σ)) (ha : PA X (e :: es) t)
    (hst : starEach (e :: es) X.env = (false, eval e X.env) :: starEach es X.env := by rfl) (hpl : (backTo pos (starEach es X.env)).any (·.1) = false := by rfl)
    (ht : eval (.Call (.Attribute o m apos) (e :: es) [] pos) X.env = (do
      let ov ← eval o X.env
      standAt apos.atName
      let (f, first) ← holding [ov] (getMethod ov m pl)
      callWith pos f first (backTo pos (starEach (e :: es) X.env)) (backToKw pos (keywordEach [] X.env))) := by rfl) :
    PE X (.Call (.Attribute o m apos) (e :: es) [] pos) (tMethE C m sp E ta t) := by
  refine ⟨fun pins s σ H Q I h => ?_⟩
  refine PySem.W.methodCall_KW (pl := pl) (thn (he.run pins s σ H _ I h) fun u s1 ⟨x, H1, I1, rx, a, dx, fs, ex, ea, l, q⟩ => ?_) ht
  subst ex
  obtain rfl : u = Value.ref a := rx
  refine getmeth_ok I1 ea c hm l ?_
  refine PySem.W.callWith_K (first := [.ref a]) (h₀ := X.base) I.ok.mod.kin hm.kp (thn (ha.run pos pins s1 σ H1 _ I1 q) fun us s2 ⟨vs, H2, I2, r, q2⟩ => ⟨I2.kIn, ?_⟩) hst hpl
  exact run_fnS (us := .ref a :: us) (vs := .ref a :: vs) F hr hb (hx σ) I2 (.cons rfl r) q2
theorem run_makeE {pins : List (Addr × Obj)} {σ : L2.St} {H : Hp} {s : Shared} {Q : VK} {us : List Value} {vs : List V} (M : Mk X.K C f) (F : FnOk X.prog X.w X.K X.mg X.base CX k f fd ps sp) (hr : Room (k + 1) X.A) (hb : Binds X.K fd ps [])
    (hx : PassesAt CX X σ (E σ)) (I : Inv X pins σ H s) (r : Vals vs us)
    (h : ∀ x dx, H x = none → H dx = none → dx ≠ x → sp (.ref x :: vs) (upd (upd H dx (.own x)) x (.ins C dx [])) (fun v H2 => v = .non ∧ Q (.ref x) H2) (E σ)) :
    wpAny (model X.prog X.w) X.A (call (.ref C) us) (EP X pins σ Q) X.xe s := by
  have hq := h (s.heap.objs.size + 1) s.heap.objs.size (I.hok.fresh (Nat.le_succ _)) (I.hok.fresh (Nat.le_refl _)) (Nat.ne_of_lt (Nat.lt_succ_self _))
  have I2 := Inv.made (C := C) I
  have r2 : Vals (V.ref (s.heap.objs.size + 1) :: vs) (Value.ref (s.heap.objs.size + 1) :: us) := .cons rfl r
  have hl : (Value.ref (s.heap.objs.size + 1) :: us ++ []).length = ps.length := by
    have e := r2.length
    rw [F.len _ _ _ _ hq] at e
    rw [List.append_nil]
    exact e.symm
  have hbb := hb _ (Value.ref (s.heap.objs.size + 1) :: us) I2.kIn hl
  rw [List.append_nil] at hbb
  refine wpAny_call (make_map (f := f) I.kIn M.makes M.init (beq_iff_eq.mp M.fn) (codeAny_mono (F.run _ X.stack _ _ ⟨Value.ref (s.heap.objs.size + 1) :: us, []⟩ (Value.ref (s.heap.objs.size + 1) :: us) _ _ (E σ) (hr.make C us [])
    (I2.env0.make C us []) hbb r2 hq) fun r s' hq' => ?_))
  cases r with
  | error e => exact hx pins _ _ e s' I2 hq'
  | ok fl =>
    cases fl with
    | ret u =>
      obtain ⟨v, H', I3, rv, ev, q3⟩ := I2.after hq'
      subst ev
      exact ⟨rv, ⟨V.ref (s.heap.objs.size + 1), H', I3, rfl, q3⟩⟩
    | next => exact False.elim hq'
    | brk => exact False.elim hq'
    | cont => exact False.elim hq'
theorem pe_makeE (M : Mk X.K C f) (F : FnOk X.prog X.w X.K X.mg X.base CX k f fd ps sp) (hr : Room (k + 1) X.A) (hg : Gl X x) (hm : X.mg x = some (.ref C)) (hb : Binds X.K fd ps []) (hx : ∀ σ, PassesAt CX X σ (E σ))
    (ha : PA X (e :: es) t) (hdb : (x == ("__debug__" : Str)) = false := by decide) (he : starEach (e :: es) X.env = (false, eval e X.env) :: starEach es X.env := by rfl) (hpl : (backTo pos (starEach es X.env)).any (·.1) = false := by rfl) :
    PE X (.Call (.Name x p) (e :: es) [] pos) (tMakeE C sp E t) := by
  refine ⟨fun pins s σ H Q I h => ?_⟩
  refine wpAny_Call_Name_kw (ld_glob I hg hm ?_ hdb)
  refine PySem.W.callWith_K (h₀ := X.base) I.ok.mod.kin M.kp (thn (ha.run pos pins s σ H _ I h) fun us s1 ⟨vs, H1, I1, r, q⟩ => ⟨I1.kIn, ?_⟩) he hpl
  exact run_makeE M F hr hb (hx σ) I1 r q
end
/-- o.m(..), o a name's own (or lent) object -/
def cMeth (cls m : Str) (i : Nat) (M : FM) (cr : CA) : CE := fun ρ => match ρ[i]? with
  | some (some (.dict ((.bool false, .str c) :: r), md)) => if (decide (c = cls) && (!md.isFz && (lookS m r).isNone)) = true then (cr ρ).bind fun ps ρ1 => callM M (.slot i :: ps) ρ1 else .bad
  | _ => .bad
section
variable {X : Cx} {k n : Nat} {cls m x : Str} {M : FM} {p px pos apos : Pos} {e : Expr} {es : List Expr} {cr : CA}
theorem sx_meth (i : Nat) (C : CalleeM X.prog X.w X.K X.mg X.base k cls m n M) (hr : Room k X.A) (hl : LenA cr n) (ha : SA X (e :: es) cr)
    (hN : X.N[i]? = some x := by rfl) (hv : Vis X.env.scope x := by first | exact Or.inl rfl | exact Or.inr (Or.inl rfl) | exact Or.inr (Or.inr rfl)) (hd : (x == ("__debug__" : Str)) = false := by decide) (hcd : (x == ("__classdict__" : Str)) = false := by decide)
    {pl : Sem Bool} (hst : starEach (e :: es) X.env = (false, eval e X.env) :: starEach es X.env := by rfl) (hpl : (backTo pos (starEach es X.env)).any (·.1) = false := by rfl)
    (ht : eval (.Call (.Attribute (.Name x px) m apos) (e :: es) [] pos) X.env = (do
      let ov ← eval (.Name x px) X.env
      standAt apos.atName
      let (f, first) ← holding [ov] (getMethod ov m pl)
      callWith pos f first (backTo pos (starEach (e :: es) X.env)) (backToKw pos (keywordEach [] X.env))) := by rfl) :
    SX X (.Call (.Attribute (.Name x px) m apos) (e :: es) [] pos) (cMeth cls m i M cr) := by
  obtain ⟨fd, pn, F, hb⟩ := C.ex
  exact fun W tk => PEimp (pe_methE (pe_var hN hv hd hcd) C.cl C.me F hr hb (fun σ => passAt tk σ) (ha W tk) hst hpl ht) (by
    rintro σ H Q ⟨L, ρ, G, B, rel, h⟩
    unfold cMeth at h
    split at h
    · rename_i c r md hi
      split at h
      · rename_i hc
        simp only [Bool.and_eq_true, decide_eq_true_eq, Bool.not_eq_true', Option.isNone_iff_eq_none] at hc
        obtain ⟨rfl, hf, hlk⟩ := hc
        obtain ⟨v, h1, h2⟩ := rel.slots i _ hi
        obtain ⟨a, rfl, hG, hB, ct⟩ := h2.own hf
        have hvw : Vw X.K G H (.ref a) (.dict ((.bool false, .str c) :: r)) := .inr ⟨a, rfl, ct⟩
        obtain ⟨a', dx, cls', fs, ds, e', ed, x1, x2, x3⟩ := hvw.obAt rel.sub rfl
        cases e'
        unfold obD at ed
        cases ed
        refine ⟨.ref a, h1, a, dx, fs, rfl, x1, x3.lookN hlk, L, ρ, G, B, rel, (Got.bindA h).mono ?_⟩
        rintro vs H1 ⟨ps, ρ1, G1, e1, rel1, _, fx, hh⟩
        exact call_imp rel1 (.cons (p := .slot i) (show σ[i]? = some (some (V.ref a)) from h1) fx) hh (by simp [hl _ _ _ e1])
      · exact h.elim
    · exact h.elim)
end
/-! ### C(..) -/
structure MakeM (P : Program) (w : World) (K : PySem.W.Frag) (mg : Str → Option Value) (base : Heap) (k : Nat) (cls : Str) (n : Nat) (M : FM) : Prop where
  ex : ∃ (fd : FuncData) (pn : List Str), FnOk P w K mg base (L2.CX P w) k (He.ma K (He.ga K cls) "__init__") fd pn (spF K mg (n + 1) M) ∧ Binds K fd pn []
  mkc : Mk K (He.ga K cls) (He.ma K (He.ga K cls) "__init__")
  glo : mg cls = some (.ref (He.ga K cls))
  ob : ObK K (He.ga K cls)
theorem MakeM.up {P : Program} {w : World} {K : PySem.W.Frag} {mg : Str → Option Value} {base : Heap} {k : Nat} {cls : Str} {n : Nat} {M : FM} (c : MakeM P w K mg base k cls n M) {j : Nat} (h : k ≤ j) : MakeM P w K mg base j cls n M := by
  obtain ⟨fd, pn, h1, h2⟩ := c.ex
  exact ⟨⟨fd, pn, h1.mono h, h2⟩, c.mkc, c.glo, c.ob⟩
def callK (cls : Str) (M : FM) (ps : List Pl) (ρ : Rho) : R Pl := match callM M (.slot ρ.length :: ps) (ρ ++ [some (obD cls [], .own)]) with
  | .ok (.val .none) ρ' => (match ρ'[ρ.length]? with
    | some (some (d, .own)) => .ok (.tmp d) (ρ'.take ρ.length)
    | _ => .bad)
  | .exc x ρ' => .exc x (ρ'.take ρ.length)
  | _ => .bad
def cMake (cls : Str) (M : FM) (cr : CA) : CE := fun ρ => (cr ρ).bind fun ps ρ1 => callK cls M ps ρ1
section
variable {X : Cx} {k n : Nat} {cls x : Str} {M : FM} {p pos : Pos} {e : Expr} {es : List Expr} {cr : CA}
theorem make_imp {W : WX} {L : L2.St} {σ : L2.St} {G B H1 : Hp} {Q : VK} {ρ1 : Rho} {ps : List Pl} {vs : List V} (ob : ObK X.K (He.ga X.K cls)) (rel1 : Rel X.K L B σ ρ1 G H1) (fx : PlA X.K σ G vs ps) (h : GotP X L W σ G B (callK cls M ps ρ1) Q) (hn : ps.length = n)
    {a dx : Addr} (ha : H1 a = none) (hdx : H1 dx = none) (hne : dx ≠ a) :
    spF X.K X.mg (n + 1) M (.ref a :: vs) (upd (upd H1 dx (.own a)) a (.ins (He.ga X.K cls) dx [])) (fun v H2 => v = .non ∧ Q (.ref a) H2) (WE W σ) := by
  have hs0 : Same H1 (upd (upd H1 dx (.own a)) a (.ins (He.ga X.K cls) dx [])) := (Same.upd_new (o := .own a) hdx).trans (Same.upd_new (by rw [upd_ne (Ne.symm hne)]; exact ha))
  have rel2 := rel1.new hs0
  have h1 : G a = none := rel1.sub.free ha
  have h2 : B a = none := rel1.base.free ha
  have c : Cont X.K G (upd (upd H1 dx (.own a)) a (.ins (He.ga X.K cls) dx [])) a (obD cls []) := .ob upd_same ob .nil
  have hs : ∀ (j : Nat) (p : D × Md), ρ1[j]? = some (some p) → p.2.isFz = false → σ[j]? ≠ some (some (.ref a)) := by
    intro j p hp hf hv
    obtain ⟨w, y1, y2⟩ := rel1.slots j p hp
    rw [hv] at y1; cases y1
    obtain ⟨a', e', _, _, c'⟩ := y2.own hf
    cases e'
    obtain ⟨o, ho⟩ := c'.there
    rw [ha] at ho; cases ho
  have relM := rel2.more h1 h2 c hs
  have hL : ∀ (j : Nat) (v : V), L[j]? = some (some v) → j < σ.length := fun j v hj => (List.getElem?_eq_some_iff.mp (rel1.lent j v hj).1).1
  have hlast : (σ ++ [some (V.ref a)])[ρ1.length]? = some (some (.ref a)) := by
    rw [rel1.len, List.getElem?_append_right (Nat.le_refl _)]; simp
  have fxM : PlA X.K (σ ++ [some (.ref a)]) G (.ref a :: vs) (.slot ρ1.length :: ps) := .cons hlast fx.more
  have hh : GotP X L (fun cls d _ H' => W cls d σ H') (σ ++ [some (.ref a)]) G B (callM M (.slot ρ1.length :: ps) (ρ1 ++ [some (obD cls [], .own)])) (fun v H2 => v = .non ∧ Q (.ref a) H2) := by
    unfold callK at h
    cases q : callM M (.slot ρ1.length :: ps) (ρ1 ++ [some (obD cls [], .own)]) with
    | bad => rw [q] at h; exact h
    | exc y ρ' =>
      rw [q] at h
      intro cls dd H' G' r' e' ok
      rw [rel1.len] at h
      exact h cls dd H' G' (r'.less hL) e' ok
    | ok p ρ' =>
      rw [q] at h
      cases p with
      | slot i => exact h.elim
      | tmp d' => exact h.elim
      | val d' =>
        cases d' with
        | none =>
          simp only at h
          intro v H' G' r' e' ok
          have ok : Fz X.K G' v .none := ok
          have hv : v = .non := by cases ok; rfl
          refine ⟨hv, ?_⟩
          split at h
          · rename_i d hd
            obtain ⟨v2, y1, y2⟩ := r'.slots _ _ hd
            rw [hlast] at y1; cases y1
            obtain ⟨a2, e2, g2, b2, c2⟩ := y2.own rfl
            cases e2
            have hd' := hd
            rw [rel1.len] at h hd'
            refine h (.ref a) H' G' (r'.less hL) e' ⟨a, rfl, g2, b2, c2, fun j p hp hf hv => ?_⟩
            rw [List.getElem?_take] at hp
            split at hp
            · rename_i hj
              have hlast' := hlast
              rw [rel1.len] at hlast'
              exact r'.sep j σ.length p (d, .own) (.ref a) (by omega) hp hd' hf rfl (app_getI hv) hlast'
            · cases hp
          · exact h.elim
        | _ => exact h.elim
  have := call_imp (n := n + 1) relM fxM hh (by simpa using hn)
  exact this
theorem sx_make (C : MakeM X.prog X.w X.K X.mg X.base k cls n M) (hr : Room (k + 1) X.A) (hg : Gl X cls) (hl : LenA cr n) (ha : SA X (e :: es) cr)
    (hdb : (cls == ("__debug__" : Str)) = false := by decide) (he : starEach (e :: es) X.env = (false, eval e X.env) :: starEach es X.env := by rfl) (hpl : (backTo pos (starEach es X.env)).any (·.1) = false := by rfl) :
    SX X (.Call (.Name cls p) (e :: es) [] pos) (cMake cls M cr) := by
  obtain ⟨fd, pn, F, hb⟩ := C.ex
  exact fun W tk => PEimp (pe_makeE C.mkc F hr hg C.glo hb (fun σ => passAt tk σ) (ha W tk) hdb he hpl) (by
    rintro σ H Q ⟨L, ρ, G, B, rel, h⟩
    refine ⟨L, ρ, G, B, rel, (Got.bindA h).mono ?_⟩
    rintro vs H1 ⟨ps, ρ1, G1, e1, rel1, _, fx, hh⟩ a dx hx hdx hne
    exact make_imp C.ob rel1 fx hh (hl _ _ _ e1) hx hdx hne)
end

/-! ### methods and makers by their meanings -/
structure MethF (K : PySem.W.Frag) (cls m : Str) : Prop where
  cl : Cls K (He.ga K cls)
  me : Meth K (He.ga K cls) m (He.ma K (He.ga K cls) m)
structure MkF (K : PySem.W.Frag) (mg : Str → Option Value) (cls : Str) : Prop where
  mkc : Mk K (He.ga K cls) (He.ma K (He.ga K cls) "__init__")
  glo : mg cls = some (.ref (He.ga K cls))
  ob : ObK K (He.ga K cls)
section
variable {P : Program} {w : World} {K : PySem.W.Frag} {mg : Str → Option Value} {base : Heap} {cls m qual : Str} {params : Arguments} {body : List Stmt} {scope : Scope} {fd : FuncData} {k n : Nat} {N ps : List Str} {c : CS}
theorem calleeM (F : FunD K m qual params body scope [] [] (He.ma K (He.ga K cls) m) fd) (S : FnScope N ps scope) (hm : MethF K cls m)
    (hb : ∀ (kV doc pm : Value) (an : Option Addr) (cdv ct : Value) (us : List Value), us.length = ps.length → bindArgs (PySem.W.fnOf m qual params body scope .none kV doc pm an cdv ct) ⟨us, []⟩ = pure (ps.zip us))
    (h : ∀ (cdv : Value) (A : Around) (outer : List Env) (s : Shared) (H : Hp) (E : XK), Room k (A.deeper (envOfC qual scope s.heap.objs.size (He.ma K (He.ga K cls) m) cdv)) → SSs (cxOf (L2.CX P w) P w K mg base N qual scope (He.ma K (He.ga K cls) m) cdv A outer s H E) body c) (hn : ps.length = n + 1 := by rfl) :
    CalleeM P w K mg base (k + 1) cls m n (mkF ps.length N.length c) :=
  ⟨⟨fd, ps, by rw [← hn]; exact fn_sound F S h, F.bindsN hb⟩, hm.cl, hm.me⟩
theorem makeM (F : FunD K "__init__" qual params body scope [] [] (He.ma K (He.ga K cls) "__init__") fd) (S : FnScope N ps scope) (hm : MkF K mg cls)
    (hb : ∀ (kV doc pm : Value) (an : Option Addr) (cdv ct : Value) (us : List Value), us.length = ps.length → bindArgs (PySem.W.fnOf "__init__" qual params body scope .none kV doc pm an cdv ct) ⟨us, []⟩ = pure (ps.zip us))
    (h : ∀ (cdv : Value) (A : Around) (outer : List Env) (s : Shared) (H : Hp) (E : XK), Room k (A.deeper (envOfC qual scope s.heap.objs.size (He.ma K (He.ga K cls) "__init__") cdv)) → SSs (cxOf (L2.CX P w) P w K mg base N qual scope (He.ma K (He.ga K cls) "__init__") cdv A outer s H E) body c) (hn : ps.length = n + 1 := by rfl) :
    MakeM P w K mg base (k + 1) cls n (mkF ps.length N.length c) :=
  ⟨⟨fd, ps, by rw [← hn]; exact fn_sound F S h, F.bindsN hb⟩, hm.mkc, hm.glo, hm.ob⟩
end
end TN
namespace K68
open PySem PySem.Spec PyProof.Rows L2 TN
abbrev M__law_orders : FM := MM__law_orders
abbrev M__law_sums_of : FM := MM__law_sums_of
abbrev M__law_unlike : FM := MM__law_unlike
abbrev M_is_whole : FM := MMWhole
abbrev M_are_numbers : FM := MM_are_numbers
abbrev M_sums_at : FM := MM_sums_at
abbrev c_sums_unlike : CS := (cRet (cBin opEq (cUn fLenSet (cCall M_sums_at (cCons (cVar 0) (cCons (cVar 1) cNil)))) (cBin opIx (cVar 0) (cLit (.int 0)))))
def M_sums_unlike : FM := mkF 2 2 c_sums_unlike
theorem in_sums_unlike {x0 x1 : D} {m0 m1 : Md} {T : D → Bool → List Slot → Prop} {E : Xc → List Slot → Prop} (h : gS (c_sums_unlike [some (x0, m0), some (x1, m1)]) (fun ρ => T .none false (ρ.take 2)) (fun d fr ρ => T d fr (ρ.take 2)) (fun x ρ => E x (ρ.take 2))) : gF (M_sums_unlike [(x0, m0), (x1, m1)]) T E := by
  unfold M_sums_unlike
  with_reducible refine gF_mkE (c := c_sums_unlike) ?_ ?_ h
  · rfl
  · rfl
abbrev c_unlike_good : CS := (cSeq (cSet 2 (cFn fLen (cCons (cBin opIx (cVar 0) (cLit (.int 1))) cNil)))
  (cSeq (cIf (cOr (cNot (cTst (cCall M_are_numbers (cCons (cVar 1) (cCons (cVar 2) cNil))))) (cTst (cBin opNe (cFn fSorted (cCons (cVar 1) cNil)) (cLstRg (cRg2 (cLit (.int 1)) (cBin opAdd (cVar 2) (cLit (.int 1))))))))
  (cRet (cLit (.bool false)))
  cSkip)
  (cRet (cCall M_sums_unlike (cCons (cVar 0) (cCons (cVar 1) cNil))))))
def M_unlike_good : FM := mkF 2 3 c_unlike_good
theorem in_unlike_good {x0 x1 : D} {m0 m1 : Md} {T : D → Bool → List Slot → Prop} {E : Xc → List Slot → Prop} (h : gS (c_unlike_good [some (x0, m0), some (x1, m1), none]) (fun ρ => T .none false (ρ.take 2)) (fun d fr ρ => T d fr (ρ.take 2)) (fun x ρ => E x (ρ.take 2))) : gF (M_unlike_good [(x0, m0), (x1, m1)]) T E := by
  unfold M_unlike_good
  with_reducible refine gF_mkE (c := c_unlike_good) ?_ ?_ h
  · rfl
  · rfl
abbrev c_Trier___init__ : CS := (cSeq (cFldS OS 0 "web" (cVar 1))
  (cSeq (cFldS OS 0 "found" (cLit (.int 0)))
  (cFldS OS 0 "first" (cLit .none))))
def M_Trier___init__ : FM := mkF 2 2 c_Trier___init__
theorem in_Trier___init__ {x0 x1 : D} {m0 m1 : Md} {T : D → Bool → List Slot → Prop} {E : Xc → List Slot → Prop} (h : gS (c_Trier___init__ [some (x0, m0), some (x1, m1)]) (fun ρ => T .none false (ρ.take 2)) (fun d fr ρ => T d fr (ρ.take 2)) (fun x ρ => E x (ρ.take 2))) : gF (M_Trier___init__ [(x0, m0), (x1, m1)]) T E := by
  unfold M_Trier___init__
  with_reducible refine gF_mkE (c := c_Trier___init__) ?_ ?_ h
  · rfl
  · rfl
abbrev b_Trier_go_1 (MR : FM) : CS := (cIf (cTst (cBin opNotIn (cVar 3) (cVar 1)))
  (cDrop (cMeth "Trier" "go" 0 MR (cCons (cBin opAdd (cVar 1) (cTup (cCons (cVar 3) cNil))) cNil)))
  cSkip)
abbrev c_Trier_go (MR : FM) : CS := (cSeq (cSet 2 (cFn fLen (cCons (cBin opIx (cUn (opFldO OS "web") (cVar 0)) (cLit (.int 1))) cNil)))
  (cIf (cTst (cBin opLt (cFn fLen (cCons (cVar 1) cNil)) (cVar 2)))
  (cFor (cRng2 (cLit (.int 1)) (cBin opAdd (cVar 2) (cLit (.int 1)))) (gNm 3)
  (b_Trier_go_1 MR))
  (cIf (cTst (cCall M_sums_unlike (cCons (cUn (opFldO OS "web") (cVar 0)) (cCons (cVar 1) cNil))))
  (cSeq (cFldA OS 0 "found" 1)
  (cIf (cTst (cBin opIsN (cUn (opFldO OS "first") (cVar 0)) (cLit .none)))
  (cFldS OS 0 "first" (cVar 1))
  cSkip))
  cSkip)))
def M_Trier_go_R : Nat → FM
  | 0 => mkF 2 4 cNever
  | k + 1 => mkF 2 4 (c_Trier_go (M_Trier_go_R k))
def M_Trier_go : FM := M_Trier_go_R 10
theorem in_Trier_go {k : Nat} {x0 x1 : D} {m0 m1 : Md} {T : D → Bool → List Slot → Prop} {E : Xc → List Slot → Prop} (h : gS ((c_Trier_go (M_Trier_go_R k)) [some (x0, m0), some (x1, m1), none, none]) (fun ρ => T .none false (ρ.take 2)) (fun d fr ρ => T d fr (ρ.take 2)) (fun x ρ => E x (ρ.take 2))) : gF (M_Trier_go_R (k + 1) [(x0, m0), (x1, m1)]) T E := by
  unfold M_Trier_go_R
  with_reducible refine gF_mkE (c := (c_Trier_go (M_Trier_go_R k))) ?_ ?_ h
  · rfl
  · rfl
abbrev c_tried : CS := (cSeq (cIf (cTst (cBin opGt (cFn fLen (cCons (cBin opIx (cVar 0) (cLit (.int 1))) cNil)) (cLit (.int 6))))
  (cRaiseA "TooGreat" ["many", "most"] (cCons (cFn fLen (cCons (cBin opIx (cVar 0) (cLit (.int 1))) cNil)) (cCons (cLit (.int 6)) cNil)))
  cSkip)
  (cSeq (cSet 1 (cMake "Trier" M_Trier___init__ (cCons (cVar 0) cNil)))
  (cSeq (cDrop (cMeth "Trier" "go" 1 M_Trier_go (cCons (cTup cNil) cNil)))
  (cRet (cVar 1)))))
def M_tried : FM := mkF 1 2 c_tried
theorem in_tried {x0 : D} {m0 : Md} {T : D → Bool → List Slot → Prop} {E : Xc → List Slot → Prop} (h : gS (c_tried [some (x0, m0), none]) (fun ρ => T .none false (ρ.take 1)) (fun d fr ρ => T d fr (ρ.take 1)) (fun x ρ => E x (ρ.take 1))) : gF (M_tried [(x0, m0)]) T E := by
  unfold M_tried
  with_reducible refine gF_mkE (c := c_tried) ?_ ?_ h
  · rfl
  · rfl
abbrev c_unlike_count : CS := (cRet (cUn (opFldO OS "found") (cCall M_tried (cCons (cVar 0) cNil))))
def M_unlike_count : FM := mkF 1 1 c_unlike_count
theorem in_unlike_count {x0 : D} {m0 : Md} {T : D → Bool → List Slot → Prop} {E : Xc → List Slot → Prop} (h : gS (c_unlike_count [some (x0, m0)]) (fun ρ => T .none false (ρ.take 1)) (fun d fr ρ => T d fr (ρ.take 1)) (fun x ρ => E x (ρ.take 1))) : gF (M_unlike_count [(x0, m0)]) T E := by
  unfold M_unlike_count
  with_reducible refine gF_mkE (c := c_unlike_count) ?_ ?_ h
  · rfl
  · rfl
abbrev M_check_place : FM := MM_check_place
abbrev M_ties_at : FM := MM_ties_at
abbrev M_tie_counts : FM := MM_tie_counts
abbrev e_unlike_bar_holds_1 : CE := (cCall M_is_whole (cCons (cVar 3) cNil))
abbrev e_unlike_bar_holds_2 : CE := (cBin opEq (cBin opIx (cVar 2) (cVar 4)) (cLit (.int 1)))
abbrev c_unlike_bar_holds : CS := (cSeq (cSet 2 (cCall M_tie_counts (cCons (cVar 0) cNil)))
  (cSeq (cIf (cOr (cNot (cTst (cUn (opIsi "tuple") (cVar 1)))) (cOr (cTst (cBin opNotIn (cFn fLen (cCons (cVar 1) cNil)) (cTup (cCons (cLit (.int 2)) (cCons (cLit (.int 3)) cNil))))) (cNot (cTst (cUn (opIsi "str") (cBin opIx (cVar 1) (cLit (.int 0))))))))
  (cRet (cLit (.bool false)))
  cSkip)
  (cSeq (cIf (cNot (cTst (cFn fAll (cCons (cComp (cIt (cSl (cVar 1) (cPart (cLit (.int 1))) cNoPart)) (gNm 3) tTrue e_unlike_bar_holds_1 [3]) cNil))))
  (cRet (cLit (.bool false)))
  cSkip)
  (cSeq (cIf (cAnd (cTst (cBin opEq (cBin opIx (cVar 1) (cLit (.int 0))) (cLit (.str "lone")))) (cAnd (cTst (cBin opEq (cFn fLen (cCons (cVar 1) cNil)) (cLit (.int 2)))) (cTst (cChain opLe opLt (cLit (.int 0)) (cBin opIx (cVar 1) (cLit (.int 1))) (cFn fLen (cCons (cBin opIx (cVar 0) (cLit (.int 1))) cNil))))))
  (cRet (cFn fAll (cCons (cComp (cIt (cBin opIx (cBin opIx (cVar 0) (cLit (.int 1))) (cBin opIx (cVar 1) (cLit (.int 1))))) (gNm 4) tTrue e_unlike_bar_holds_2 [4]) cNil)))
  cSkip)
  (cSeq (cIf (cAnd (cTst (cBin opEq (cBin opIx (cVar 1) (cLit (.int 0))) (cLit (.str "bare")))) (cAnd (cTst (cBin opEq (cFn fLen (cCons (cVar 1) cNil)) (cLit (.int 3)))) (cTst (cChain3 opLe opLt opLt (cLit (.int 0)) (cBin opIx (cVar 1) (cLit (.int 1))) (cBin opIx (cVar 1) (cLit (.int 2))) (cBin opIx (cVar 0) (cLit (.int 0)))))))
  (cRet (cAndV (cBin opEq (cBin opIx (cVar 2) (cBin opIx (cVar 1) (cLit (.int 1)))) (cLit (.int 0))) (cBin opEq (cBin opIx (cVar 2) (cBin opIx (cVar 1) (cLit (.int 2)))) (cLit (.int 0)))))
  cSkip)
  (cRet (cLit (.bool false))))))))
def M_unlike_bar_holds : FM := mkF 2 5 c_unlike_bar_holds
theorem in_unlike_bar_holds {x0 x1 : D} {m0 m1 : Md} {T : D → Bool → List Slot → Prop} {E : Xc → List Slot → Prop} (h : gS (c_unlike_bar_holds [some (x0, m0), some (x1, m1), none, none, none]) (fun ρ => T .none false (ρ.take 2)) (fun d fr ρ => T d fr (ρ.take 2)) (fun x ρ => E x (ρ.take 2))) : gF (M_unlike_bar_holds [(x0, m0), (x1, m1)]) T E := by
  unfold M_unlike_bar_holds
  with_reducible refine gF_mkE (c := c_unlike_bar_holds) ?_ ?_ h
  · rfl
  · rfl
abbrev b_unlike_bar_1 : CS := (cIf (cTst (cCall M_unlike_bar_holds (cCons (cVar 0) (cCons (cTup (cCons (cLit (.str "lone")) (cCons (cVar 1) cNil))) cNil))))
  (cRet (cTup (cCons (cLit (.str "lone")) (cCons (cVar 1) cNil))))
  cSkip)
abbrev e_unlike_bar_2 : CE := (cVar 3)
abbrev t_unlike_bar_3 : CB := (cTst (cBin opEq (cVar 4) (cLit (.int 0))))
abbrev c_unlike_bar : CS := (cSeq (cFor (cRng1 (cFn fLen (cCons (cBin opIx (cVar 0) (cLit (.int 1))) cNil))) (gNm 1)
  b_unlike_bar_1)
  (cSeq (cSet 2 (cComp (cEnum (cCall M_tie_counts (cCons (cVar 0) cNil))) (gTp 2 (gsCons (gNm 3) (gsCons (gNm 4) gsNil))) t_unlike_bar_3 e_unlike_bar_2 [3, 4]))
  (cSeq (cIf (cTst (cBin opGt (cFn fLen (cCons (cVar 2) cNil)) (cLit (.int 1))))
  (cRet (cTup (cCons (cLit (.str "bare")) (cCons (cBin opIx (cVar 2) (cLit (.int 0))) (cCons (cBin opIx (cVar 2) (cLit (.int 1))) cNil)))))
  cSkip)
  (cRet (cLit .none)))))
def M_unlike_bar : FM := mkF 1 5 c_unlike_bar
theorem in_unlike_bar {x0 : D} {m0 : Md} {T : D → Bool → List Slot → Prop} {E : Xc → List Slot → Prop} (h : gS (c_unlike_bar [some (x0, m0), none, none, none, none]) (fun ρ => T .none false (ρ.take 1)) (fun d fr ρ => T d fr (ρ.take 1)) (fun x ρ => E x (ρ.take 1))) : gF (M_unlike_bar [(x0, m0)]) T E := by
  unfold M_unlike_bar
  with_reducible refine gF_mkE (c := c_unlike_bar) ?_ ?_ h
  · rfl
  · rfl
abbrev M_hubs_of : FM := MM_hubs_of
abbrev M_need_hub : FM := MM_need_hub
abbrev M_by_hub : FM := MM_by_hub
abbrev M_numbers_in : FM := MM_numbers_in
abbrev M_unlike_by : FM := MM_unlike_by
abbrev e__law_right_1 : CE := (cVar 8)
abbrev t__law_right_2 : CB := (cTst (cBin opIn (cVar 7) (cVar 8)))
abbrev e__law_right_3 : CE := (cFn fLen (cCons (cComp (cIt (cBin opIx (cVar 0) (cLit (.int 1)))) (gNm 8) t__law_right_2 e__law_right_1 [8]) cNil))
abbrev e__law_right_4 : CE := (cBin opSub (cBin opAdd (cVar 1) (cLit (.int 1))) (cVar 9))
abbrev b__law_right_5 : CS := (cSeq (cSet 5 (cCall M__law_unlike (cCons (cVar 0) (cCons (cVar 4) cNil))))
  (cSeq (cSet 6 (cCall M_unlike_good (cCons (cVar 0) (cCons (cVar 4) cNil))))
  (cSeq (cIf (cOr (cNot (cTst (cUn (opIsi "bool") (cVar 6)))) (cTst (cBin opNe (cVar 6) (cVar 5))))
  (cRet (cLit (.bool false)))
  cSkip)
  (cIf (cTst (cVar 5))
  (cSeq (cDrop (cMutL 3 fAppend (cCons (cVar 4) cNil)))
  (cIf (cAnd (cTst (cBin opEq (cFn fMin (cCons (cVar 2) cNil)) (cFn fMax (cCons (cVar 2) cNil)))) (cNot (cTst (cCall M_unlike_good (cCons (cVar 0) (cCons (cFn fTuple (cCons (cComp (cIt (cVar 4)) (gNm 9) tTrue e__law_right_4 [9]) cNil)) cNil))))))
  (cRet (cLit (.bool false)))
  cSkip))
  cSkip))))
abbrev c__law_right : CS := (cSeq (cSet 1 (cFn fLen (cCons (cBin opIx (cVar 0) (cLit (.int 1))) cNil)))
  (cSeq (cSet 2 (cComp (cRng1 (cBin opIx (cVar 0) (cLit (.int 0)))) (gNm 7) tTrue e__law_right_3 [7]))
  (cSeq (cSet 3 (cLst cNil))
  (cSeq (cFor (cIt (cCall M__law_orders (cCons (cVar 1) cNil))) (gNm 4)
  b__law_right_5)
  (cSeq (cIf (cOr (cTst (cBin opNe (cCall M_unlike_count (cCons (cVar 0) cNil)) (cFn fLen (cCons (cVar 3) cNil)))) (cAnd (cTst (cBin opNe (cVar 3) (cLst cNil))) (cTst (cBin opNotN (cCall M_unlike_bar (cCons (cVar 0) cNil)) (cLit .none)))))
  (cRet (cLit (.bool false)))
  cSkip)
  (cSeq (cIf (cAnd (cTst (cBin opGt (cBin opIx (cVar 0) (cLit (.int 0))) (cLit (.int 2)))) (cTst (cBin opIn (cBin opSub (cBin opIx (cVar 0) (cLit (.int 0))) (cLit (.int 1))) (cVar 2))))
  (cRet (cBin opIn (cCall M_unlike_by (cCons (cVar 0) (cCons (cLstRg (cRg2 (cLit (.int 1)) (cBin opAdd (cVar 1) (cLit (.int 1))))) cNil))) (cVar 3)))
  cSkip)
  (cRet (cLit (.bool true)))))))))
def M__law_right : FM := mkF 1 10 c__law_right
theorem in__law_right {x0 : D} {m0 : Md} {T : D → Bool → List Slot → Prop} {E : Xc → List Slot → Prop} (h : gS (c__law_right [some (x0, m0), none, none, none, none, none, none, none, none, none]) (fun ρ => T .none false (ρ.take 1)) (fun d fr ρ => T d fr (ρ.take 1)) (fun x ρ => E x (ρ.take 1))) : gF (M__law_right [(x0, m0)]) T E := by
  unfold M__law_right
  with_reducible refine gF_mkE (c := c__law_right) ?_ ?_ h
  · rfl
  · rfl
abbrev M__law_cell_at : FM := MMCell
abbrev M__law_pen_of : FM := MMPen
abbrev M__law_next : FM := MMNext
abbrev M__law_draw : FM := MMDraw
abbrev M__law_web_by : FM := MM__law_web_by
abbrev b_law_1 : CS := (cSeq (cSet 2 (cCall M__law_pen_of (cCons (cVar 1) cNil)))
  (cSeq (cSet 3 (cCall M__law_web_by (cCons (cVar 2) (cCons (cLit (.int 6)) cNil))))
  (cIf (cNot (cTst (cCall M__law_right (cCons (cTup (cCons (cBin opIx (cVar 3) (cLit (.int 0))) (cCons (cSl (cBin opIx (cVar 3) (cLit (.int 1))) cNoPart (cPart (cLit (.int 5)))) cNil))) cNil))))
  (cRet (cLit (.bool false)))
  cSkip)))
abbrev c_law : CS := (cSeq (cIf (cOr (cNot (cTst (cCall M__law_right (cCons (cTup (cCons (cLit (.int 2)) (cCons (cTup (cCons (cTup (cCons (cLit (.int 0)) (cCons (cLit (.int 1)) cNil))) cNil)) cNil))) cNil)))) (cNot (cTst (cCall M__law_right (cCons (cTup (cCons (cLit (.int 5)) (cCons (cTup (cCons (cTup (cCons (cLit (.int 0)) (cCons (cLit (.int 1)) cNil))) (cCons (cTup (cCons (cLit (.int 0)) (cCons (cLit (.int 4)) cNil))) (cCons (cTup (cCons (cLit (.int 1)) (cCons (cLit (.int 2)) cNil))) (cCons (cTup (cCons (cLit (.int 2)) (cCons (cLit (.int 3)) cNil))) (cCons (cTup (cCons (cLit (.int 3)) (cCons (cLit (.int 4)) cNil))) cNil)))))) cNil))) cNil)))))
  (cRet (cLit (.bool false)))
  cSkip)
  (cSeq (cFor (cIt (cBin opAdd (cLst (cCons (cCall M__law_cell_at (cCons (cVar 0) (cCons (cLit (.int 0)) cNil))) cNil)) (cSl (cVar 0) (cPart (cLit (.int 1))) (cPart (cLit (.int 2)))))) (gNm 1)
  b_law_1)
  (cRet (cLit (.bool true)))))
def M_law : FM := mkF 1 4 c_law
theorem in_law {x0 : D} {m0 : Md} {T : D → Bool → List Slot → Prop} {E : Xc → List Slot → Prop} (h : gS (c_law [some (x0, m0), none, none, none]) (fun ρ => T .none false (ρ.take 1)) (fun d fr ρ => T d fr (ρ.take 1)) (fun x ρ => E x (ρ.take 1))) : gF (M_law [(x0, m0)]) T E := by
  unfold M_law
  with_reducible refine gF_mkE (c := c_law) ?_ ?_ h
  · rfl
  · rfl
end K68
namespace K68
open PySem PySem.Spec PyProof.Rows L2 TN
def U (n : Nat) (ts : List (Nat × Nat)) (V : List Int) : Bool := decide ((ddI (sumsL n ts V)).length = n)
theorem satT_run {n : Nat} {ts : List (Nat × Nat)} (h : WebOk n ts) {V : List Int} (hV : V.length = ts.length) : (MM_sums_at [(webD n ts, .fz), (.tuple (V.map .int), .fz)]).rv = some (.list ((sumsL n ts V).map .int), true) := by
  have hnl := h.nl
  have h0 := rep0 h.nl
  have hz := zipD_ts ts V
  have hzm : ∀ p ∈ ts.zip V, p.1.1 < n ∧ p.1.2 < n := fun p hp => h.lt p.1 (List.of_mem_zip hp).1
  unfold sumsL
  generalize ts.zip V = Z at *
  with_reducible refine rv_gF (in_sums_at ?_)
  repeat' (first | (apply gO_of h0) | (apply w_zipM) | array_mem_dec)
  rw [hz]
  refine for_inv Z (fun p => .tuple [tieD p.1, .int p.2]) (fun pre ρ => ∃ j3 j4 j5, ρ = [some (webD n ts, .fz), some (.tuple (V.map .int), .fz), some (.list ((pre.foldl TN.sumStep (List.replicate n 0)).map .int), .own), jk j3, jk j4, jk j5]) rfl ⟨none, none, none, rfl⟩ ?_ ?_
  · rintro pre p post _ hE ⟨j3, j4, j5, rfl⟩
    obtain ⟨l1, l2⟩ := hzm p (by rw [hE]; simp)
    have hal : (pre.foldl TN.sumStep (List.replicate n 0)).length = n := by rw [sumFold_len]; simp
    rw [List.foldl_append]
    generalize pre.foldl TN.sumStep (List.replicate n 0) = A at *
    have i1 : opIx (.list (A.map .int)) (.int (p.1.1 : Nat)) = some (.val (.int (A.getD p.1.1 0))) := ix_intsL (by omega)
    have p1 : putA (.list (A.map .int)) (.int (p.1.1 : Nat)) (.int (A.getD p.1.1 0 + p.2)) = some (.list ((addAt A p.1.1 p.2).map .int)) := put_i (by omega) _
    have hbl := addAt_len A p.1.1 p.2
    have e1 : List.foldl TN.sumStep A [p] = addAt (addAt A p.1.1 p.2) p.1.2 p.2 := rfl
    rw [e1]
    generalize addAt A p.1.1 p.2 = Bq at *
    have i2 : opIx (.list (Bq.map .int)) (.int (p.1.2 : Nat)) = some (.val (.int (Bq.getD p.1.2 0))) := ix_intsL (by omega)
    have p2 : putA (.list (Bq.map .int)) (.int (p.1.2 : Nat)) (.int (Bq.getD p.1.2 0 + p.2)) = some (.list ((addAt Bq p.1.2 p.2).map .int)) := put_i (by omega) _
    generalize (addAt Bq p.1.2 p.2).map PyData.int = CD at *
    generalize Bq.map PyData.int = BD at *
    generalize A.map PyData.int = AD at *
    repeat' (first | (apply put_rfl p1) | (apply put_rfl p2) | array_mem_dec)
    exact ⟨some (.int p.2), some (.int (p.1.1 : Nat)), some (.int (p.1.2 : Nat)), rfl⟩
  · rintro _ ⟨j3, j4, j5, rfl⟩
    repeat' array_mem_dec
    exact ⟨rfl, rfl⟩
theorem sunl_run {n : Nat} {ts : List (Nat × Nat)} (h : WebOk n ts) {V : List Int} (hV : V.length = ts.length) : (M_sums_unlike [(webD n ts, .fz), (.tuple (V.map .int), .fz)]).rv = some (.bool (U n ts V), false) := by
  have hs := satT_run h hV
  have hnl := h.nl
  have hls := fLenSet_l (sumsL n ts V) (by rw [sumsL_len]; omega)
  have hwn := web_n n ts
  have heq : opEq (.int ((ddI (sumsL n ts V)).length : Nat)) (.int (n : Nat)) = some (.val (.bool (U n ts V))) := by
    rw [opEq_int]
    unfold U
    have : decide ((((ddI (sumsL n ts V)).length : Nat) : Int) = (n : Int)) = decide ((ddI (sumsL n ts V)).length = n) := decide_eq_decide.mpr (by omega)
    rw [this]
  generalize U n ts V = u at *
  generalize (ddI (sumsL n ts V)).length = l at *
  generalize (sumsL n ts V).map PyData.int = SD at *
  generalize V.map PyData.int = VD at *
  generalize webD n ts = WD at *
  with_reducible refine rv_gF (in_sums_unlike ?_)
  repeat' (first | (with_reducible apply gO_of hls) | (apply gO_of hwn) | (with_reducible apply gO_of heq) | array_mem_dec | ((with_reducible refine TN.c_rvT ?_ ?_ hs ?_); exact rfl; exact rfl))
  all_goals exact ⟨rfl, rfl⟩
theorem lunl_run {n : Nat} {ts : List (Nat × Nat)} (h : WebOk n ts) {V : List Int} (hV : V.length = ts.length) : (M__law_unlike [(webD n ts, .fz), (.tuple (V.map .int), .fz)]).rv = some (.bool (U n ts V), false) := by
  have hnl := h.nl
  have hn1 := h.n1
  have hs := lsat_run h hV
  have hsl : (sumsL n ts V).length = n := sumsL_len n ts V
  have hso := fSorted_l (sumsL n ts V) (by omega)
  have hSl : (sortI (sumsL n ts V)).length = n := by rw [(sortI_perm _).length_eq, hsl]
  have hu : U n ts V = (List.range (n - 1)).all fun k => !decide ((sortI (sumsL n ts V)).getD k 0 = (sortI (sumsL n ts V)).getD (k + 1) 0) := by
    have := unlike_iff (sumsL n ts V)
    rw [hsl] at this
    exact this
  rw [hu]
  generalize sortI (sumsL n ts V) = S at *
  generalize (sumsL n ts V).map PyData.int = SD at *
  have hl2 : (S.map PyData.int).length = n := by rw [List.length_map, hSl]
  have e1 : (n : Int) - 1 = ((n - 1 : Nat) : Int) := by omega
  with_reducible refine rv_gF (in__law_unlike ?_)
  repeat' (first | (apply gO_of hso) | (rw [hl2]) | (rw [hSl]) | (rw [e1]) | array_mem_dec | ((with_reducible refine TN.c_rvT ?_ ?_ hs ?_); exact rfl; exact rfl))
  refine for_rng (n - 1) (fun k ρ => (∀ j, j < k → S.getD j 0 ≠ S.getD (j + 1) 0) ∧ ∃ j3, ρ = [some (webD n ts, .fz), some (.tuple (V.map .int), .fz), some (.list (S.map .int), .own), jk j3]) (by rfl) ⟨by omega, none, rfl⟩ ?_ ?_
  · rintro k _ hk ⟨hp, j3, rfl⟩
    have i1 : opIx (.list (S.map .int)) (.int (k : Nat)) = some (.val (.int (S.getD k 0))) := ix_intsL (by omega)
    have i2 : opIx (.list (S.map .int)) (.int ((k : Int) + 1)) = some (.val (.int (S.getD (k + 1) 0))) := ix_intsL (k := k + 1) (by omega)
    have hall : S.getD k 0 = S.getD (k + 1) 0 → ((List.range (n - 1)).all fun k => !decide (S.getD k 0 = S.getD (k + 1) 0)) = false := fun e => by
      rw [List.all_eq_false]
      exact ⟨k, List.mem_range.mpr hk, by
        show ¬ (!decide (S.getD k 0 = S.getD (k + 1) 0)) = true
        rw [decide_eq_true e]
        simp⟩
    have hp2 : S.getD k 0 ≠ S.getD (k + 1) 0 → ∀ j, j < k + 1 → S.getD j 0 ≠ S.getD (j + 1) 0 := fun e j hj => by
      by_cases z : j = k
      · subst z; exact e
      · exact hp j (by omega)
    generalize ((List.range (n - 1)).all fun k => !decide (S.getD k 0 = S.getD (k + 1) 0)) = u at *
    generalize hSS : S.map PyData.int = SS at *
    generalize S.getD k 0 = x at *
    generalize S.getD (k + 1) 0 = y at *
    repeat' (first | (apply gO_of i1) | (apply gO_of i2) | array_mem_dec)
    refine br_dec (fun q => ?_) fun q => ?_
    · repeat' array_mem_dec
      exact ⟨by rw [hall q], rfl⟩
    · repeat' array_mem_dec
      exact ⟨hp2 q, some (.int (k : Nat)), rfl⟩
  · rintro _ ⟨hp, j3, rfl⟩
    have : ((List.range (n - 1)).all fun k => !decide (S.getD k 0 = S.getD (k + 1) 0)) = true := by
      rw [List.all_eq_true]
      intro j hj
      have := hp j (List.mem_range.mp hj)
      simpa using this
    rw [this]
    repeat' array_mem_dec
    exact ⟨rfl, rfl⟩
/-! the two ways through all orders -/
def lv (m : Nat) : Nat → List Int → List (List Int)
  | 0, p => [p]
  | f + 1, p => (nxO m p).flatMap (lv m f)
theorem ord_lv (m : Nat) : ∀ f k, ordS m (k + f) = (ordS m k).flatMap (lv m f)
  | 0, k => by
    have : lv m 0 = fun p => [p] := rfl
    rw [this, List.flatMap_singleton']
    rfl
  | f + 1, k => by
    have e : k + (f + 1) = k + 1 + f := by omega
    rw [e, ord_lv m f (k + 1)]
    show ((ordS m k).flatMap (nxO m)).flatMap (lv m f) = _
    rw [List.flatMap_assoc]
    rfl
theorem ord_all (m : Nat) : ordS m m = lv m m [] := by
  have := ord_lv m m 0
  rw [Nat.zero_add] at this
  rw [this]
  simp [ordS]
def ac (u : List Int → Bool) (q : Int × Option (List Int)) (L : List (List Int)) : Int × Option (List Int) := (q.1 + ((L.filter u).length : Nat), q.2.or (L.filter u).head?)
theorem ac_nil (u : List Int → Bool) (q : Int × Option (List Int)) : ac u q [] = q := by
  unfold ac
  simp
theorem ac_app (u : List Int → Bool) (q : Int × Option (List Int)) (A B : List (List Int)) : ac u (ac u q A) B = ac u q (A ++ B) := by
  unfold ac
  rw [List.filter_append, List.length_append, List.head?_append, Option.or_assoc, Int.natCast_add, Int.add_assoc]
end K68
namespace K68
open TN
open PySem PySem.Spec PyProof.Rows L2
/-- a method can be called -/
def mtO (cls m : Str) : D → Bool
  | .dict ((.bool false, .str c) :: r) => decide (c = cls) && (lookS m r).isNone
  | _ => false
theorem meth_eq {cls m : Str} {i : Nat} {M : FM} {cr : CA} {ρ : Rho} {d : D} {md : Md} (hi : ρ[i]? = some (some (d, md))) (hk : mtO cls m d = true) (hm : md.isFz = false) : cMeth cls m i M cr ρ = (cr ρ).bind fun ps ρ1 => callM M (.slot i :: ps) ρ1 := by
  unfold mtO at hk
  split at hk
  · rename_i c r
    unfold cMeth
    simp only [hi, hm, Bool.not_false, Bool.true_and, hk, if_true]
  · cases hk
theorem bindE {α : Type} {r : TN.R α} {k : α → Rho → TN.R Pl} {Q : Pl → Rho → Prop} {E : Xc → Rho → Prop} (h : TNO.gE r (fun a ρ1 => TNO.gE (k a ρ1) Q E) E) : TNO.gE (r.bind k) Q E := TNO.gE_bind h
theorem w_meth {cls m : Str} {i : Nat} {M : FM} {cr : CA} {ρ : Rho} {d : D} {md : Md} {Q : Pl → Rho → Prop} {E : Xc → Rho → Prop} (hi : ρ[i]? = some (some (d, md))) (hk : mtO cls m d = true) (hm : md.isFz = false) (h : TN.gE (cr ρ) (fun ps ρ1 => TN.gE (callM M (.slot i :: ps) ρ1) Q E) E) : TN.gE (cMeth cls m i M cr ρ) Q E := by
  rw [meth_eq hi hk hm]
  with_unfolding_all exact bindE h
def fD : Option (List Int) → D
  | none => .none
  | some l => .tuple (l.map .int)
def tr (WD : D) (q : Int × Option (List Int)) : D := obD "Trier" [("web", WD), ("found", .int q.1), ("first", fD q.2)]
theorem tr_web (WD : D) (q : Int × Option (List Int)) : opFldO OS "web" (tr WD q) = some (.val WD) := by kernel_rfl
theorem tr_found (WD : D) (q : Int × Option (List Int)) : opFldO OS "found" (tr WD q) = some (.val (.int q.1)) := by kernel_rfl
theorem tr_first (WD : D) (q : Int × Option (List Int)) : opFldO OS "first" (tr WD q) = some (.val (fD q.2)) := by kernel_rfl
theorem tr_mt (WD : D) (q : Int × Option (List Int)) : mtO "Trier" "go" (tr WD q) = true := by kernel_rfl
theorem tr_add (WD : D) (c : Int) (o : Option (List Int)) (s1 s2 s3 : Slot) : cFldA OS 0 "found" 1 [some (tr WD (c, o), .lent), s1, s2, s3] = .nx [some (tr WD (c + 1, o), .lent), s1, s2, s3] := by kernel_rfl
theorem tr_set (WD : D) (c : Int) (p : List Int) (s2 s3 : Slot) : cFldS OS 0 "first" (cVar 1) [some (tr WD (c, none), .lent), some (.tuple (p.map .int), .fz), s2, s3] = .nx [some (tr WD (c, some p), .lent), some (.tuple (p.map .int), .fz), s2, s3] := by kernel_rfl
section
variable {n : Nat} {ts : List (Nat × Nat)}
def Li (m f : Nat) (p : List Int) (i : Nat) : List (List Int) := ((List.range i).filterMap fun i => if decide (((1 + i : Nat) : Int) ∈ p) = true then none else some (p ++ [((1 + i : Nat) : Int)])).flatMap (lv m f)
theorem Li_succ (m f : Nat) (p : List Int) (i : Nat) : Li m f p (i + 1) = Li m f p i ++ (if ((1 + i : Nat) : Int) ∈ p then [] else lv m f (p ++ [((1 + i : Nat) : Int)])) := by
  unfold Li
  rw [List.range_succ, List.filterMap_append, List.flatMap_append]
  congr 1
  by_cases h : ((1 + i : Nat) : Int) ∈ p
  · rw [if_pos h]
    simp only [List.filterMap_cons, List.filterMap_nil, decide_eq_true h]
    simp
  · rw [if_neg h]
    simp only [List.filterMap_cons, List.filterMap_nil, decide_eq_false h]
    simp
theorem go_run (hw : WebOk n ts) (hm6 : ts.length ≤ 6) : ∀ (f k : Nat) (p : List Int) (q : Int × Option (List Int)), p.length + f = ts.length → f < k →
    M_Trier_go_R k [(tr (webD n ts) q, .lent), (.tuple (p.map .int), .fz)] = .ok .none false [some (tr (webD n ts) (ac (U n ts) q (lv ts.length f p)), .lent), some (.tuple (p.map .int), .fz)]
  | f, 0, p, q, _, h => absurd h (by omega)
  | 0, k + 1, p, (c, o), hp, _ => by
    have hwt := web_ties n ts
    have hln : fLen [.tuple (ts.map tieD)] = some (.val (.int (ts.length : Nat))) := by rw [fLen_t, List.length_map]
    have hlp : fLen [.tuple (p.map PyData.int)] = some (.val (.int (p.length : Nat))) := by rw [fLen_t, List.length_map]
    have hU := sunl_run hw (V := p) (by omega)
    have tw := tr_web (webD n ts) (c, o)
    have tf := tr_first (webD n ts) (c + 1, o)
    have ta := tr_add (webD n ts) c o
    have tset := tr_set (webD n ts) (c + 1) p
    have hlv : lv ts.length 0 p = [p] := rfl
    rw [hlv]
    have h := ex_gF (r := M_Trier_go_R (k + 1) [(tr (webD n ts) (c, o), .lent), (.tuple (p.map .int), .fz)]) (T := fun d fr o' => d = .none ∧ fr = false ∧ o' = [some (tr (webD n ts) (ac (U n ts) (c, o) [p]), .lent), some (.tuple (p.map .int), .fz)]) (in_Trier_go ?_)
    · obtain ⟨d, fr, o', e, rfl, rfl, rfl⟩ := h
      exact e
    have hac : ac (U n ts) (c, o) [p] = if U n ts p = true then (c + 1, o.or (some p)) else (c, o) := by
      unfold ac
      by_cases hu : U n ts p = true
      · rw [if_pos hu]; simp [hu]
      · rw [if_neg hu]; simp [hu]
    rw [hac]
    generalize U n ts p = u at *
    generalize webD n ts = WD at *
    generalize hTD : PyData.tuple (ts.map tieD) = TD at *
    generalize hPD : PyData.tuple (p.map PyData.int) = PD at *
    cases u with
    | false =>
      repeat' (first | (with_reducible apply gO_of tw) | (apply gO_of hwt) | (apply gO_of hln) | (apply gO_of hlp) | array_mem_dec | ((with_reducible refine TN.c_rv ?_ ?_ hU ?_); exact rfl; exact rfl))
      exact ⟨rfl, rfl, rfl⟩
    | true =>
      cases o with
      | none =>
        have tf : opFldO OS "first" (tr WD (c + 1, none)) = some (.val .none) := tf
        repeat' (first | (with_reducible apply gO_of tw) | (apply gO_of hwt) | (apply gO_of hln) | (apply gO_of hlp) | (with_reducible refine gS_nx (ta _ _ _) ?_) | (with_reducible apply gO_of tf) | (with_reducible refine gS_nx (tset _ _) ?_) | array_mem_dec | ((with_reducible refine TN.c_rv ?_ ?_ hU ?_); exact rfl; exact rfl))
        exact ⟨rfl, rfl, rfl⟩
      | some l =>
        have tf : opFldO OS "first" (tr WD (c + 1, some l)) = some (.val (.tuple (l.map .int))) := tf
        repeat' (first | (with_reducible apply gO_of tw) | (apply gO_of hwt) | (apply gO_of hln) | (apply gO_of hlp) | (with_reducible refine gS_nx (ta _ _ _) ?_) | (with_reducible apply gO_of tf) | array_mem_dec | ((with_reducible refine TN.c_rv ?_ ?_ hU ?_); exact rfl; exact rfl))
        exact ⟨rfl, rfl, rfl⟩
  | f + 1, k + 1, p, q, hp, hf => by
    have hwt := web_ties n ts
    have hln : fLen [.tuple (ts.map tieD)] = some (.val (.int (ts.length : Nat))) := by rw [fLen_t, List.length_map]
    have hlp : fLen [.tuple (p.map PyData.int)] = some (.val (.int (p.length : Nat))) := by rw [fLen_t, List.length_map]
    have IH := fun (x : Int) (q : Int × Option (List Int)) => go_run hw hm6 f k (p ++ [x]) q (by simp; omega) (by omega)
    have tw := tr_web (webD n ts) q
    have hlv : lv ts.length (f + 1) p = Li ts.length f p ts.length := rfl
    rw [hlv]
    have hpl : (p.map PyData.int).length ≤ 6 := by rw [List.length_map]; omega
    generalize webD n ts = WD at *
    generalize hTD : PyData.tuple (ts.map tieD) = TD at *
    generalize U n ts = u at *
    generalize ts.length = m at *
    have h := ex_gF (r := M_Trier_go_R (k + 1) [(tr WD q, .lent), (.tuple (p.map .int), .fz)]) (T := fun d fr o' => d = .none ∧ fr = false ∧ o' = [some (tr WD (ac u q (Li m f p m)), .lent), some (.tuple (p.map .int), .fz)]) (in_Trier_go ?_)
    · obtain ⟨d, fr, o', e, rfl, rfl, rfl⟩ := h
      exact e
    repeat' (first | (with_reducible apply gO_of tw) | (apply gO_of hwt) | (apply gO_of hln) | (apply gO_of hlp) | array_mem_dec)
    refine for_rng2 1 m (fun i ρ => ∃ j3, ρ = [some (tr WD (ac u q (Li m f p i)), .lent), some (.tuple (p.map .int), .fz), some (.int (m : Nat), .fz), jk j3]) rfl (by omega) ⟨none, by
      have : Li m f p 0 = [] := rfl
      rw [this, ac_nil]; rfl⟩ ?_ ?_
    · rintro i _ hi ⟨j3, rfl⟩
      have hni := notin_row p ((1 + i : Nat) : Int)
      by_cases hx : ((1 + i : Nat) : Int) ∈ p
      · rw [decide_eq_true hx] at hni
        rw [Li_succ, if_pos hx, List.append_nil]
        generalize tr WD (ac u q (Li m f p i)) = TR at *
        repeat' (first | (with_reducible apply gO_of hni) | array_mem_dec)
        exact ⟨some (.int ((1 + i : Nat) : Int)), rfl⟩
      · rw [decide_eq_false hx] at hni
        have ih := IH ((1 + i : Nat) : Int) (ac u q (Li m f p i))
        rw [ac_app] at ih
        rw [Li_succ, if_neg hx]
        have tm := tr_mt WD (ac u q (Li m f p i))
        have e : p.map PyData.int ++ [PyData.int ((1 + i : Nat) : Int)] = (p ++ [((1 + i : Nat) : Int)]).map PyData.int := by rw [List.map_append]; rfl
        generalize tr WD (ac u q (Li m f p i ++ lv m f (p ++ [((1 + i : Nat) : Int)]))) = TR2 at *
        generalize tr WD (ac u q (Li m f p i)) = TR at *
        repeat' (first | (with_reducible apply gO_of hni) | (with_reducible refine w_meth rfl tm rfl ?_) | (rw [e]) | ((with_reducible refine c_gen (ρ1 := [some (TR2, .lent), some (.tuple (p.map .int), .fz), some (.int (m : Nat), .fz), some (.int ((1 + i : Nat) : Int), .fz)]) ?_ ?_ ih ?_ ?_); exact rfl; exact rfl; exact rfl) | array_mem_dec)
        exact ⟨some (.int ((1 + i : Nat) : Int)), rfl⟩
    · rintro _ ⟨j3, rfl⟩
      generalize tr WD (ac u q (Li m f p m)) = TR at *
      repeat' array_mem_dec
      exact ⟨rfl, rfl, rfl⟩
theorem make_eq (WD : D) : cMake "Trier" M_Trier___init__ (cCons (cVar 0) cNil) [some (WD, .fz), none] = .ok (.tmp (tr WD (0, none))) [some (WD, .fz), none] := by kernel_rfl
theorem tried_run (hw : WebOk n ts) (hm6 : ts.length ≤ 6) : (M_tried [(webD n ts, .fz)]).rv = some (tr (webD n ts) (ac (U n ts) (0, none) (ordS ts.length ts.length)), true) := by
  have hwt := web_ties n ts
  have hln : fLen [.tuple (ts.map tieD)] = some (.val (.int (ts.length : Nat))) := by rw [fLen_t, List.length_map]
  have hgo : M_Trier_go [(tr (webD n ts) (0, none), .lent), (.tuple [], .fz)] = _ := go_run hw hm6 ts.length 10 [] (0, none) (by simp) (by omega)
  rw [← ord_all] at hgo
  have hmk := make_eq (webD n ts)
  have tm := tr_mt (webD n ts) (0, none)
  generalize tr (webD n ts) (ac (U n ts) (0, none) (ordS ts.length ts.length)) = TR2 at *
  generalize tr (webD n ts) (0, none) = TR at *
  generalize webD n ts = WD at *
  generalize hTD : PyData.tuple (ts.map tieD) = TD at *
  with_reducible refine rv_gF (in_tried ?_)
  repeat' (first | (apply gO_of hwt) | (apply gO_of hln) | (with_reducible refine gE_ok hmk ?_) | (with_reducible refine w_meth rfl tm rfl ?_) | ((with_reducible refine c_gen (ρ1 := [some (WD, .fz), some (TR2, .own)]) ?_ ?_ hgo ?_ ?_); exact rfl; exact rfl; exact rfl) | array_mem_dec)
  exact ⟨rfl, rfl⟩
def G (n : Nat) (ts : List (Nat × Nat)) : List (List Int) := (ordS ts.length ts.length).filter (U n ts)
theorem count_run (hw : WebOk n ts) (hm6 : ts.length ≤ 6) : (M_unlike_count [(webD n ts, .fz)]).rv = some (.int ((G n ts).length : Nat), false) := by
  have ht := tried_run hw hm6
  have hf := tr_found (webD n ts) (ac (U n ts) (0, none) (ordS ts.length ts.length))
  have e : (ac (U n ts) (0, none) (ordS ts.length ts.length)).1 = ((G n ts).length : Nat) := by unfold ac G; simp
  rw [e] at hf
  generalize tr (webD n ts) (ac (U n ts) (0, none) (ordS ts.length ts.length)) = TR at *
  generalize webD n ts = WD at *
  with_reducible refine rv_gF (in_unlike_count ?_)
  repeat' (first | (with_reducible apply gO_of hf) | array_mem_dec | ((with_reducible refine TN.c_rvT ?_ ?_ ht ?_); exact rfl; exact rfl))
  exact ⟨rfl, rfl⟩
theorem shaped_rowsL (L : List (List Int)) : SeqAt.shaped (.list (L.map rowI)) = true := by
  refine shaped_lst (k := 5) (fun d hd => ?_) (by omega)
  obtain ⟨r, _, rfl⟩ := List.mem_map.mp hd
  have h2 := TN.depthAll_ints r
  exact ⟨SeqAt.canLay_of_shaped (shaped_tints r), by rw [PyData.depth]; omega⟩
theorem eq_nilG (L : List (List Int)) : opEq (.list (L.map rowI)) (.list []) = some (.val (.bool (decide (L = [])))) ∧ opNe (.list (L.map rowI)) (.list []) = some (.val (.bool (!decide (L = [])))) := by
  have h : SeqAt.shaped (.list (L.map rowI)) = true ∧ SeqAt.shaped (.list []) = true := ⟨shaped_rowsL L, shaped_rowsL []⟩
  unfold opEq opNe
  rw [if_pos h, if_pos h]
  cases L with
  | nil => exact ⟨by kernel_rfl, by kernel_rfl⟩
  | cons r l => simp [PyData.eqv, PyData.eqvAll]
end
end K68
namespace K68
open TN
open PySem PySem.Spec PyProof.Rows L2
theorem nxO_iff {m : Nat} {p r : List Int} : r ∈ nxO m p ↔ ∃ x : Int, 1 ≤ x ∧ x ≤ m ∧ x ∉ p ∧ r = p ++ [x] := by
  unfold nxO
  rw [List.mem_filterMap]
  constructor
  · rintro ⟨i, hi, h⟩
    have := List.mem_range.mp hi
    by_cases hx : ((1 + i : Nat) : Int) ∈ p
    · rw [if_pos (decide_eq_true hx)] at h; cases h
    · rw [if_neg (fun z => hx (of_decide_eq_true z))] at h
      cases h
      exact ⟨_, by omega, by omega, hx, rfl⟩
  · rintro ⟨x, h1, h2, h3, rfl⟩
    refine ⟨(x - 1).toNat, List.mem_range.mpr (by omega), ?_⟩
    have e : ((1 + (x - 1).toNat : Nat) : Int) = x := by omega
    rw [e, if_neg (fun z => h3 (of_decide_eq_true z))]
theorem ord_iff {m : Nat} : ∀ {k : Nat} {r : List Int}, r ∈ ordS m k ↔ r.length = k ∧ r.Nodup ∧ ∀ x ∈ r, 1 ≤ x ∧ x ≤ m
  | 0, r => by
    simp only [ordS, List.mem_cons, List.not_mem_nil, or_false]
    constructor
    · rintro rfl; simp
    · rintro ⟨h, _⟩; exact List.length_eq_zero_iff.mp h
  | k + 1, r => by
    simp only [ordS, List.mem_flatMap]
    constructor
    · rintro ⟨p, hp, hr⟩
      obtain ⟨h1, h2, h3⟩ := ord_iff.mp hp
      obtain ⟨x, x1, x2, x3, rfl⟩ := nxO_iff.mp hr
      refine ⟨by simp [h1], List.nodup_append.mpr ⟨h2, by simp, fun a ha b hb e => ?_⟩, fun y hy => ?_⟩
      · rw [List.mem_singleton] at hb
        subst e hb
        exact x3 ha
      · rcases List.mem_append.mp hy with z | z
        · exact h3 y z
        · rw [List.mem_singleton.mp z]; exact ⟨x1, x2⟩
    · rintro ⟨h1, h2, h3⟩
      have hne : r ≠ [] := fun z => by rw [z] at h1; simp at h1
      have e := List.dropLast_concat_getLast hne
      rw [← e] at h2 h3
      obtain ⟨n1, _, n3⟩ := List.nodup_append.mp h2
      refine ⟨r.dropLast, ord_iff.mpr ⟨by simp [h1], n1, fun x hx => h3 x (List.mem_append_left _ hx)⟩, nxO_iff.mpr ⟨r.getLast hne, (h3 _ (by simp)).1, (h3 _ (by simp)).2, fun z => n3 _ z _ (by simp) rfl, e.symm⟩⟩
theorem ord_perm {m : Nat} {r : List Int} : r ∈ ordS m m ↔ r.Perm (rgI 1 ((m : Int) + 1)) := by
  rw [ord_iff]
  constructor
  · rintro ⟨h1, h2, h3⟩
    exact perm_of h2 (fun x hx => rg_mem.mpr (h3 x hx)) (by rw [h1, rgI_len1])
  · intro h
    exact ⟨by rw [h.length_eq, rgI_len1], h.nodup_iff.mpr (rg_nodup _ _), fun x hx => rg_mem.mp (h.mem_iff.mp hx)⟩
section
variable {n : Nat} {ts : List (Nat × Nat)}
theorem U_iff (V : List Int) : U n ts V = true ↔ (sumsL n ts V).Nodup := by
  unfold U
  rw [decide_eq_true_iff]
  have := dd_nd (sumsL n ts V)
  rw [sumsL_len] at this
  exact this
theorem comp_sum (c : Int) (p : Nat) : ∀ (ts : List (Nat × Nat)) (V : List Int), V.length = ts.length → ((ts.zip (V.map fun x => c - x)).map fun q => if hasP q.1 p = true then q.2 else 0).sum = ((deg ts p : Nat) : Int) * c - ((ts.zip V).map fun q => if hasP q.1 p = true then q.2 else 0).sum
  | [], _, _ => by simp [deg]
  | t :: ts, [], h => by simp at h
  | t :: ts, v :: V, h => by
    have ih := comp_sum c p ts V (by simpa using h)
    simp only [List.map_cons, List.zip_cons_cons, List.sum_cons]
    rw [ih]
    unfold deg
    rw [List.countP_cons]
    by_cases hp : hasP t p = true
    · simp only [hp, if_true]
      rw [Int.natCast_add, Int.add_mul]
      omega
    · simp only [hp, Bool.false_eq_true, if_false, Nat.add_zero]
      omega
theorem comp_U (hne : ∀ t ∈ ts, t.1 < n ∧ t.2 < n ∧ t.1 ≠ t.2) {d : Nat} (hd : ∀ p, p < n → deg ts p = d) (c : Int) {V : List Int} (hV : V.length = ts.length) (h : U n ts V = true) : U n ts (V.map fun x => c - x) = true := by
  rw [U_iff] at h ⊢
  have e : sumsL n ts (V.map fun x => c - x) = (sumsL n ts V).map fun x => (d : Int) * c - x := by
    apply List.ext_getElem
    · rw [List.length_map, sumsL_len, sumsL_len]
    · intro i h1 h2
      have hi : i < n := by rw [sumsL_len] at h1; exact h1
      have e1 := sumsL_get hne (V.map fun x => c - x) i
      have e2 := sumsL_get hne V i
      rw [comp_sum c i ts V hV, ← e2, hd i hi] at e1
      rw [List.getD_eq_getElem?_getD, List.getElem?_eq_getElem h1, List.getD_eq_getElem?_getD, List.getElem?_eq_getElem (by rw [sumsL_len]; exact hi)] at e1
      simpa using e1
  rw [e]
  exact List.Pairwise.map _ (fun a b hab z => hab (by omega)) h
/-- a place of one tie has its number, a place of none nought -/
theorem bare_sum (p : Nat) : ∀ (ts : List (Nat × Nat)) (V : List Int), deg ts p = 0 → ((ts.zip V).map fun q => if hasP q.1 p = true then q.2 else 0).sum = 0
  | [], _, _ => by simp
  | t :: ts, [], h => by simp
  | t :: ts, v :: V, h => by
    unfold deg at h
    rw [List.countP_cons] at h
    by_cases hp : hasP t p = true
    · rw [hp] at h; simp at h
    · have ih := bare_sum p ts V (by unfold deg; omega)
      simp only [List.zip_cons_cons, List.map_cons, List.sum_cons, ih, hp, Bool.false_eq_true, if_false]
      rfl
theorem lone_sum (p : Nat) : ∀ (ts : List (Nat × Nat)) (V : List Int) (k : Nat), V.length = ts.length → deg ts p = 1 → (∃ t, ts[k]? = some t ∧ hasP t p = true) → ((ts.zip V).map fun q => if hasP q.1 p = true then q.2 else 0).sum = V.getD k 0
  | [], _, _, _, h, _ => by simp [deg] at h
  | t :: ts, [], _, h, _, _ => by simp at h
  | t :: ts, v :: V, 0, hl, h, ⟨t', e, hp⟩ => by
    simp only [List.getElem?_cons_zero, Option.some.injEq] at e
    subst e
    unfold deg at h
    rw [List.countP_cons, hp] at h
    have ih := bare_sum p ts V (by unfold deg; simp only [if_true] at h; omega)
    simp only [List.zip_cons_cons, List.map_cons, List.sum_cons, ih, hp, if_true]
    simp
  | t :: ts, v :: V, k + 1, hl, h, ⟨t', e, hp⟩ => by
    have e : ts[k]? = some t' := by simpa using e
    have hk : 0 < ts.countP fun t => hasP t p := List.countP_pos_iff.mpr ⟨t', List.mem_of_getElem? e, hp⟩
    unfold deg at h
    rw [List.countP_cons] at h
    have hn : ¬ hasP t p = true := fun z => by rw [z] at h; simp only [if_true] at h; omega
    have ih := lone_sum p ts V k (by simpa using hl) (by unfold deg; omega) ⟨t', e, hp⟩
    simp only [List.zip_cons_cons, List.map_cons, List.sum_cons, ih, hn, Bool.false_eq_true, if_false]
    simp
theorem two_same {l : List Int} {i j : Nat} (hi : i < l.length) (hj : j < l.length) (hne : i ≠ j) (e : l.getD i 0 = l.getD j 0) : ¬ l.Nodup := fun h => by
  rw [List.getD_eq_getElem?_getD, List.getElem?_eq_getElem hi, List.getD_eq_getElem?_getD, List.getElem?_eq_getElem hj] at e
  exact hne ((List.getElem_inj h).mp e)
theorem no_bare (hne : ∀ t ∈ ts, t.1 < n ∧ t.2 < n ∧ t.1 ≠ t.2) {p q : Nat} (hp : p < n) (hq : q < n) (hpq : p ≠ q) (h1 : deg ts p = 0) (h2 : deg ts q = 0) (V : List Int) : U n ts V = false := by
  rw [Bool.eq_false_iff]
  intro h
  rw [U_iff] at h
  refine two_same (i := p) (j := q) (by rw [sumsL_len]; exact hp) (by rw [sumsL_len]; exact hq) hpq ?_ h
  rw [sumsL_get hne, sumsL_get hne, bare_sum p ts V h1, bare_sum q ts V h2]
theorem no_lone (hne : ∀ t ∈ ts, t.1 < n ∧ t.2 < n ∧ t.1 ≠ t.2) {k : Nat} {t : Nat × Nat} (ht : ts[k]? = some t) (h1 : deg ts t.1 = 1) (h2 : deg ts t.2 = 1) {V : List Int} (hV : V.length = ts.length) : U n ts V = false := by
  obtain ⟨l1, l2, l3⟩ := hne t (List.mem_of_getElem? ht)
  rw [Bool.eq_false_iff]
  intro h
  rw [U_iff] at h
  refine two_same (i := t.1) (j := t.2) (by rw [sumsL_len]; exact l1) (by rw [sumsL_len]; exact l2) l3 ?_ h
  rw [sumsL_get hne, sumsL_get hne, lone_sum t.1 ts V k hV h1 ⟨t, ht, by simp [hasP]⟩, lone_sum t.2 ts V k hV h2 ⟨t, ht, by simp [hasP]⟩]
end
end K68
namespace K68
open PySem PySem.Spec PyProof.Rows L2 TN
def loneD (i : Int) : D := .tuple [.str "lone", .int i]
def bareD (a b : Int) : D := .tuple [.str "bare", .int a, .int b]
def vTie (ts : List (Nat × Nat)) (t : Nat × Nat) : Bool := decide (((deg ts t.1 : Nat) : Int) = 1) && decide (((deg ts t.2 : Nat) : Int) = 1)
def vLone (ts : List (Nat × Nat)) (i : Int) : Bool := if 0 ≤ i ∧ i < ts.length then vTie ts (ts.getD i.toNat (0, 0)) else false
def vPair (ts : List (Nat × Nat)) (a b : Nat) : Bool := decide (((deg ts a : Nat) : Int) = 0) && decide (((deg ts b : Nat) : Int) = 0)
def vBare (n : Nat) (ts : List (Nat × Nat)) (a b : Int) : Bool := if 0 ≤ a ∧ a < b ∧ b < n then vPair ts a.toNat b.toNat else false
theorem ix_lc {n : Nat} {ts : List (Nat × Nat)} {k : Nat} (h : k < n) : opIx (.tuple ((lcI n ts).map .int)) (.int (k : Nat)) = some (.val (.int ((deg ts k : Nat) : Int))) := by
  rw [ix_ints (by rw [lcI_len]; exact h), lcI_get h]
theorem ix_tie {ts : List (Nat × Nat)} {k : Nat} (h : k < ts.length) : opIx (.tuple (ts.map tieD)) (.int (k : Nat)) = some (.val (tieD (ts.getD k (0, 0)))) := by
  rw [ix_tD (by rw [List.length_map]; exact h)]
  simp [List.getD_eq_getElem?_getD, h]
theorem getD_mem {ts : List (Nat × Nat)} {k : Nat} (h : k < ts.length) : ts.getD k (0, 0) ∈ ts := by
  rw [List.getD_eq_getElem?_getD, List.getElem?_eq_getElem h]
  exact List.getElem_mem _
section
variable {n : Nat} {ts : List (Nat × Nat)}
theorem holds_lone (hw : WebOk n ts) (i : Int) : (M_unlike_bar_holds [(webD n ts, .fz), (loneD i, .fz)]).rv = some (.bool (vLone ts i), false) := by
  have hc : (MM_tie_counts [(webD n ts, .fz)]).rv = some (.tuple ((lcI n ts).map .int), false) := counts_run hw
  have hln : fLen [.tuple (ts.map tieD)] = some (.val (.int (ts.length : Nat))) := by rw [fLen_t, List.length_map]
  have hwt := web_ties n ts
  have hwn := web_n n ts
  have hni : opNotIn (.int 2) (.tuple [.int 2, .int 3]) = some (.val (.bool false)) := by kernel_rfl
  have hall : fAll [.list [.bool true]] = some (.val (.bool true)) := rfl
  have hlw := hw.lt
  have hix := fun (k : Nat) (h : k < n) => ix_lc (ts := ts) h
  have hit := fun (k : Nat) (h : k < ts.length) => ix_tie (ts := ts) h
  have hfl := fun L : List Nat => fAll_map L (fun k => decide (((deg ts k : Nat) : Int) = 1))
  have hcut : cutL [PyData.str "lone", .int i] (some 1) none = [.int i] := rfl
  have hwi : (MMWhole [(.int i, .fz)]).rv = some (.bool true, false) := whole_run (.int i)
  unfold loneD vLone
  generalize webD n ts = WD at *
  generalize PyData.tuple ((lcI n ts).map .int) = CD at *
  generalize hTD : PyData.tuple (ts.map tieD) = TD at *
  with_reducible refine rv_gF (in_unlike_bar_holds ?_)
  repeat' (first | (apply gO_of hni) | (rw [hcut]) | array_mem_dec | ((with_reducible refine TN.c_rv ?_ ?_ hc ?_); exact rfl; exact rfl))
  refine TN.cp_map ([i]) (.int) (fun _ => .bool true) rfl (by (first | omega | (simp; done) | (simp; omega))) (by (first | exact rfl | (repeat (first | exact TN.wOk_nil | ((apply TN.wOk_cons); exact rfl; (first | exact TN.okW_none | exact TN.okW_fz | exact TN.okW_jk | assumption)))))) (by (repeat (first | exact wipe_nil | apply wipe_cons | exact st0 | apply stS))) ?_ ?_
  · intro x hx
    rw [List.mem_singleton.mp hx]
    repeat' (first | array_mem_dec | ((with_reducible refine TN.c_rv ?_ ?_ hwi ?_); exact rfl; exact rfl))
    exact ⟨rfl, rfl⟩
  · by_cases h : 0 ≤ i ∧ i < ts.length
    · obtain ⟨k, rfl, hk⟩ : ∃ k : Nat, i = (k : Int) ∧ k < ts.length := ⟨i.toNat, by omega, by omega⟩
      have i1 := hit k hk
      have hm := hlw _ (getD_mem hk)
      rw [if_pos h]
      rw [show ((k : Int).toNat) = k from rfl]
      generalize ts.getD k (0, 0) = t at *
      have i2 : seqOf (tieD t) = some ([t.1, t.2].map fun (k : Nat) => PyData.int (k : Nat)) := rfl
      have i3 : seqD (tieD t) = some ([t.1, t.2].map fun (k : Nat) => PyData.int (k : Nat)) := rfl
      have hf := hfl [t.1, t.2]
      repeat' (first | (apply gO_of hall) | (apply gO_of hwt) | (apply gO_of hln) | (apply gO_of i1) | array_mem_dec)
      refine TN.cp_map ([t.1, t.2]) ((fun (k : Nat) => PyData.int (k : Nat))) (fun k => .bool (decide (((deg ts k : Nat) : Int) = 1))) rfl (by (first | omega | (simp; done) | (simp; omega))) (by (first | exact rfl | (repeat (first | exact TN.wOk_nil | ((apply TN.wOk_cons); exact rfl; (first | exact TN.okW_none | exact TN.okW_fz | exact TN.okW_jk | assumption)))))) (by (repeat (first | exact wipe_nil | apply wipe_cons | exact st0 | apply stS))) ?_ ?_
      · intro x hx
        have hxn : x < n := by
          simp only [List.mem_cons, List.not_mem_nil, or_false] at hx
          rcases hx with rfl | rfl <;> omega
        have i4 := hix x hxn
        repeat' (first | (apply gO_of i4) | array_mem_dec)
        exact ⟨rfl, rfl⟩
      · repeat' (first | (apply gO_of hf) | array_mem_dec)
        exact ⟨by simp [vTie], rfl⟩
    · rw [if_neg h]
      by_cases h0 : 0 ≤ i
      · have h1 : ¬ i < (ts.length : Int) := fun z => h ⟨h0, z⟩
        repeat' (first | (apply gO_of hall) | (apply gO_of hwt) | (apply gO_of hln) | array_mem_dec)
        exact ⟨rfl, rfl⟩
      · repeat' (first | (apply gO_of hall) | (apply gO_of hwt) | (apply gO_of hln) | array_mem_dec)
        exact ⟨rfl, rfl⟩
end
inductive Tg where
  | lo (k : Nat) | ba (a b : Nat)
def tgD : Tg → D
  | .lo k => loneD (k : Nat)
  | .ba a b => bareD (a : Nat) (b : Nat)
def tgV (n : Nat) (ts : List (Nat × Nat)) : Tg → Bool
  | .lo k => vLone ts (k : Nat)
  | .ba a b => vBare n ts (a : Nat) (b : Nat)
def prs (n k : Nat) : List Tg := (List.range k).flatMap fun a => (List.range (n - (a + 1))).map fun i => Tg.ba a (a + 1 + i)
def los (m : Nat) : List Tg := (List.range m).map Tg.lo
def evr (n m : Nat) : List Tg := los m ++ prs n n
theorem prs_succ (n k : Nat) : prs n (k + 1) = prs n k ++ (List.range (n - (k + 1))).map fun i => Tg.ba k (k + 1 + i) := by
  unfold prs
  rw [List.range_succ, List.flatMap_append]
  simp
def prO : List Nat → List (Nat × Nat)
  | [] => []
  | a :: l => l.map (fun b => (a, b)) ++ prO l
theorem prO_range : ∀ m s : Nat, prO (List.range' s m) = (List.range m).flatMap fun a => (List.range (m - (a + 1))).map fun i => (s + a, s + (a + 1 + i))
  | 0, s => by simp [prO]
  | m + 1, s => by
    rw [List.range'_succ, List.range_succ_eq_map, List.flatMap_cons, List.flatMap_map, prO, prO_range m (s + 1), List.range'_eq_map_range, List.map_map]
    congr 1
    · show _ = (List.range (m + 1 - 1)).map _
      rw [Nat.add_sub_cancel]
      exact List.map_congr_left fun i _ => Prod.ext rfl (by simp only [Function.comp]; omega)
    · refine congrArg (fun f => (List.range m).flatMap f) (funext fun a => ?_)
      rw [show m + 1 - (a.succ + 1) = m - (a + 1) by omega]
      exact List.map_congr_left fun i _ => Prod.ext (by simp only; omega) (by simp only; omega)
theorem prs_all (n : Nat) : prs n n = (prO (List.range n)).map fun p => Tg.ba p.1 p.2 := by
  rw [List.range_eq_range', prO_range, List.map_flatMap]
  unfold prs
  refine congrArg (fun f => (List.range n).flatMap f) (funext fun a => ?_)
  rw [List.map_map]
  exact List.map_congr_left fun i _ => by simp only [Function.comp, Nat.zero_add]
theorem prO_hd (p : Nat → Bool) : ∀ l : List Nat, ((prO l).filter fun q => p q.1 && p q.2).head? = match l.filter p with
    | a :: b :: _ => some (a, b)
    | _ => none
  | [] => rfl
  | a :: l => by
    have ih := prO_hd p l
    rw [prO, List.filter_append, List.filter_map]
    have e : ((fun q : Nat × Nat => p q.1 && p q.2) ∘ fun b => (a, b)) = fun b => p a && p b := rfl
    rw [e]
    cases ha : p a with
    | false =>
      rw [List.filter_cons_of_neg (by simp [ha])]
      simp only [Bool.false_and]
      rw [show l.filter (fun _ => false) = [] from List.filter_eq_nil_iff.mpr (by simp)]
      exact ih
    | true =>
      rw [List.filter_cons_of_pos ha]
      simp only [Bool.true_and]
      cases hl : l.filter p with
      | nil =>
        rw [hl] at ih
        simpa [hl] using ih
      | cons b r => simp [hl]
theorem prO_lt : ∀ (l : List Nat), l.Pairwise (· < ·) → ∀ q ∈ prO l, q.1 < q.2 ∧ q.1 ∈ l ∧ q.2 ∈ l
  | [], _, q, hq => by simp [prO] at hq
  | a :: l, h, q, hq => by
    rw [List.pairwise_cons] at h
    rcases List.mem_append.mp hq with z | z
    · obtain ⟨b, hb, rfl⟩ := List.mem_map.mp z
      exact ⟨h.1 b hb, by simp, by simp [hb]⟩
    · obtain ⟨h1, h2, h3⟩ := prO_lt l h.2 q z
      exact ⟨h1, List.mem_cons_of_mem _ h2, List.mem_cons_of_mem _ h3⟩
section
variable {n : Nat} {ts : List (Nat × Nat)}
def bare0 (n : Nat) (ts : List (Nat × Nat)) : List Nat := (List.range n).filter fun k => decide (((deg ts k : Nat) : Int) = 0)
def fst (n : Nat) (ts : List (Nat × Nat)) : Option Tg := ((evr n ts.length).filter (tgV n ts)).head?
theorem fst_lo {k : Nat} (hk : k < ts.length) (h0 : ∀ j, j < k → vLone ts (j : Nat) = false) (h1 : vLone ts (k : Nat) = true) : fst n ts = some (.lo k) := by
  unfold fst evr los
  obtain ⟨r, hr⟩ : ∃ r, ts.length = k + (r + 1) := ⟨ts.length - k - 1, by omega⟩
  rw [hr, List.range_add, List.range_succ_eq_map, List.map_append, List.append_assoc, List.filter_append]
  rw [List.filter_eq_nil_iff.mpr (fun t ht => ?_)]
  · simp only [List.nil_append, List.map_cons, List.cons_append]
    rw [List.filter_cons_of_pos (by simpa [tgV] using h1)]
    rfl
  · obtain ⟨j, hj, rfl⟩ := List.mem_map.mp ht
    have := h0 j (List.mem_range.mp hj)
    simp [tgV, this]
theorem fst_ba (h0 : ∀ j, j < ts.length → vLone ts (j : Nat) = false) : fst n ts = match bare0 n ts with
    | a :: b :: _ => some (.ba a b)
    | _ => none := by
  unfold fst evr
  have e1 : (los ts.length).filter (tgV n ts) = [] := by
    rw [List.filter_eq_nil_iff]
    intro t ht
    obtain ⟨j, hj, rfl⟩ := List.mem_map.mp ht
    simp [tgV, h0 j (List.mem_range.mp hj)]
  rw [List.filter_append, e1, List.nil_append, prs_all, List.filter_map, List.head?_map]
  have e2 : (prO (List.range n)).filter (tgV n ts ∘ fun p => Tg.ba p.1 p.2) = (prO (List.range n)).filter fun q => (fun k => decide (((deg ts k : Nat) : Int) = 0)) q.1 && (fun k => decide (((deg ts k : Nat) : Int) = 0)) q.2 := by
    refine List.filter_congr fun q hq => ?_
    obtain ⟨h1, h2, h3⟩ := prO_lt _ (List.pairwise_lt_range) q hq
    have := List.mem_range.mp h3
    simp only [Function.comp, tgV, vBare]
    rw [if_pos (by omega)]
    rfl
  rw [e2]
  refine (congrArg (Option.map fun p : Nat × Nat => Tg.ba p.1 p.2) (prO_hd (fun k => decide (((deg ts k : Nat) : Int) = 0)) (List.range n))).trans ?_
  unfold bare0
  generalize (List.range n).filter _ = l
  match l with
  | [] => rfl
  | [_] => rfl
  | _ :: _ :: _ => rfl
theorem zip_lc (f : Nat → Int) : ((List.range n).map f).zipIdx = (List.range n).map fun k => (f k, k) := by
  apply List.ext_getElem
  · simp
  · intro i h1 h2
    simp
theorem bare_list : ((lcI n ts).zipIdx.filterMap fun p => if decide (p.1 = 0) = true then some (PyData.int (p.2 : Nat)) else none) = (bare0 n ts).map fun (k : Nat) => PyData.int (k : Nat) := by
  unfold lcI
  rw [zip_lc, List.filterMap_map]
  have e : ((fun p : Int × Nat => if decide (p.1 = 0) = true then some (PyData.int (p.2 : Nat)) else none) ∘ fun k => (((deg ts k : Nat) : Int), k)) = fun k => if decide (((deg ts k : Nat) : Int) = 0) = true then some (PyData.int (k : Nat)) else none := rfl
  rw [e]
  exact fm_if ..
theorem unl_run (hw : WebOk n ts) : (M_unlike_bar [(webD n ts, .fz)]).rv = some ((match fst n ts with | none => .none | some t => tgD t), false) := by
  have hc : (MM_tie_counts [(webD n ts, .fz)]).rv = some (.tuple ((lcI n ts).map .int), false) := counts_run hw
  have hln : fLen [.tuple (ts.map tieD)] = some (.val (.int (ts.length : Nat))) := by rw [fLen_t, List.length_map]
  have hwt := web_ties n ts
  have hh := fun k : Nat => holds_lone hw (k : Int)
  have hnl := hw.nl
  have htl := hw.tl
  have hbl := bare_list (n := n) (ts := ts)
  have hll := lcI_len n ts
  generalize webD n ts = WD at *
  generalize hTD : PyData.tuple (ts.map tieD) = TD at *
  with_reducible refine rv_gF (in_unlike_bar ?_)
  repeat' (first | (apply gO_of hwt) | (apply gO_of hln) | array_mem_dec)
  refine for_rng ts.length (fun k ρ => (∀ j, j < k → vLone ts (j : Nat) = false) ∧ ∃ j1, ρ = [some (WD, .fz), jk j1, none, none, none]) rfl ⟨by omega, none, rfl⟩ ?_ ?_
  · rintro k _ hk ⟨h0, j1, rfl⟩
    have q := hh k
    cases hv : vLone ts (k : Nat) with
    | true =>
      rw [hv] at q
      unfold loneD at q
      repeat' (first | array_mem_dec | ((with_reducible refine TN.c_rv ?_ ?_ q ?_); exact rfl; exact rfl))
      rw [fst_lo hk h0 hv]
      exact ⟨rfl, rfl⟩
    | false =>
      rw [hv] at q
      unfold loneD at q
      repeat' (first | array_mem_dec | ((with_reducible refine TN.c_rv ?_ ?_ q ?_); exact rfl; exact rfl))
      refine ⟨fun j hj => ?_, some (.int (k : Nat)), rfl⟩
      by_cases e : j = k
      · subst e; exact hv
      · exact h0 j (by omega)
  · rintro _ ⟨h0, j1, rfl⟩
    rw [fst_ba h0]
    repeat' (first | array_mem_dec | ((with_reducible refine TN.c_rv ?_ ?_ hc ?_); exact rfl; exact rfl))
    refine TN.cp_enumF ((lcI n ts)) (.int) (fun i x => if decide (x = 0) = true then some (PyData.int (i : Nat)) else none) rfl (by (first | omega | (simp; done) | (simp; omega))) (by (first | exact rfl | (repeat (first | exact TN.wOk_nil | ((apply TN.wOk_cons); exact rfl; (first | exact TN.okW_none | exact TN.okW_fz | exact TN.okW_jk | assumption)))))) (by (repeat (first | exact wipe_nil | apply wipe_cons | exact st0 | apply stS))) ?_ ?_
    · intro i x hx
      repeat' array_mem_dec
      refine br_dec (fun q => ?_) fun q => ?_
      · repeat' array_mem_dec
        exact ⟨by rw [if_pos (decide_eq_true q)], rfl⟩
      · repeat' array_mem_dec
        exact ⟨by rw [if_neg (fun z => q (of_decide_eq_true z))], rfl⟩
    · rw [hbl]
      match hb : bare0 n ts with
      | [] =>
        repeat' array_mem_dec
        exact ⟨rfl, rfl⟩
      | [a] =>
        repeat' array_mem_dec
        exact ⟨rfl, rfl⟩
      | a :: b :: l =>
        have i1 : opIx (.list ((a :: b :: l).map fun (k : Nat) => PyData.int (k : Nat))) (.int 0) = some (.val (.int (a : Nat))) := ix_lD (R := (a :: b :: l).map fun (k : Nat) => PyData.int (k : Nat)) (k := 0) (by simp)
        have i2 : opIx (.list ((a :: b :: l).map fun (k : Nat) => PyData.int (k : Nat))) (.int 1) = some (.val (.int (b : Nat))) := ix_lD (R := (a :: b :: l).map fun (k : Nat) => PyData.int (k : Nat)) (k := 1) (by simp)
        have i3 : fLen [.list ((a :: b :: l).map fun (k : Nat) => PyData.int (k : Nat))] = some (.val (.int ((l.length + 2 : Nat) : Int))) := by rw [fLen_l]; simp; omega
        have i4 : ((l.length + 2 : Nat) : Int) > 1 := by omega
        generalize (a :: b :: l).map (fun (k : Nat) => PyData.int (k : Nat)) = BL at *
        repeat' (first | (apply gO_of i3) | (apply gO_of i1) | (apply gO_of i2) | (apply br_p i4) | array_mem_dec)
        exact ⟨rfl, rfl⟩

theorem bar_none (hw : WebOk n ts) (hne : ∀ t ∈ ts, t.1 < n ∧ t.2 < n ∧ t.1 ≠ t.2) {V : List Int} (hV : V.length = ts.length) (hU : U n ts V = true) : (M_unlike_bar [(webD n ts, .fz)]).rv = some (.none, false) := by
  have h := unl_run hw
  cases hf : fst n ts with
  | none => rw [hf] at h; exact h
  | some t =>
    exfalso
    unfold fst at hf
    have ht := List.mem_filter.mp (List.mem_of_head? hf)
    have hv := ht.2
    cases t with
    | lo k =>
      simp only [tgV, vLone] at hv
      split at hv
      · rename_i hk
        have hk2 : k < ts.length := by omega
        simp only [vTie, Bool.and_eq_true, decide_eq_true_eq, Int.toNat_natCast] at hv
        have he : ts[k]? = some (ts.getD k (0, 0)) := by
          rw [List.getD_eq_getElem?_getD, List.getElem?_eq_getElem hk2]; rfl
        rw [no_lone hne he (by omega) (by omega) hV] at hU
        cases hU
      · cases hv
    | ba a b =>
      simp only [tgV, vBare] at hv
      split at hv
      · rename_i hk
        simp only [vPair, Bool.and_eq_true, decide_eq_true_eq, Int.toNat_natCast] at hv
        rw [no_bare hne (p := a) (q := b) (by omega) (by omega) (by omega) (by omega) (by omega) V] at hU
        cases hU
      · cases hv
theorem ugood_run (h : WebOk n ts) {V : List Int} (hV : V.length = ts.length) (hp : V.Perm (rgI 1 ((ts.length : Int) + 1))) : (M_unlike_good [(webD n ts, .fz), (.tuple (V.map .int), .fz)]).rv = some (.bool (U n ts V), false) := by
  have htl := h.tl
  have hs := sunl_run h hV
  have hno : (MM_are_numbers [(.tuple (V.map .int), .fz), (.int (ts.length : Nat), .fz)]).rv = some (.bool true, false) := by
    rw [TN.nums_run _ (by omega)]
    have : numsOk (.tuple (V.map .int)) ts.length = true := by
      unfold numsOk
      rw [Bool.and_eq_true]
      refine ⟨decide_eq_true (by rw [List.length_map, hV]), ?_⟩
      rw [List.all_map, List.all_eq_true]
      exact fun _ _ => rfl
    rw [this]
  have hwt := web_ties n ts
  have hln : fLen [.tuple (ts.map tieD)] = some (.val (.int (ts.length : Nat))) := by rw [fLen_t, List.length_map]
  have hso := fSorted_t V (by omega)
  rw [(sortI_iff (rgI_pw _ _)).mpr hp] at hso
  have hne := opNe_ints (rgI 1 ((ts.length : Int) + 1)) (rgI 1 ((ts.length : Int) + 1))
  rw [decide_eq_true rfl] at hne
  generalize V.map PyData.int = VD at *
  generalize U n ts V = u at *
  generalize webD n ts = WD at *
  generalize ts.map tieD = TD at *
  with_reducible refine rv_gF (in_unlike_good ?_)
  repeat' (first | (apply gO_of hwt) | (apply gO_of hln) | (apply gO_of hso) | (apply gO_of hne) | array_mem_dec | ((with_reducible refine TN.c_rv ?_ ?_ hno ?_); exact rfl; exact rfl) | ((with_reducible refine TN.c_rv ?_ ?_ hs ?_); exact rfl; exact rfl))
  all_goals exact ⟨rfl, rfl⟩
end
end K68
namespace K68
open PySem PySem.Spec PyProof.Rows L2 TN
theorem min_le : ∀ (l : List Int) (a : Int), l.foldl min a ≤ a ∧ ∀ x ∈ l, l.foldl min a ≤ x
  | [], a => ⟨Int.le_refl _, by simp⟩
  | b :: l, a => by
    obtain ⟨h1, h2⟩ := min_le l (min a b)
    rw [List.foldl_cons]
    refine ⟨by omega, fun x hx => ?_⟩
    rcases List.mem_cons.mp hx with rfl | hx
    · omega
    · exact h2 x hx
theorem le_max : ∀ (l : List Int) (a : Int), a ≤ l.foldl max a ∧ ∀ x ∈ l, x ≤ l.foldl max a
  | [], a => ⟨Int.le_refl _, by simp⟩
  | b :: l, a => by
    obtain ⟨h1, h2⟩ := le_max l (max a b)
    rw [List.foldl_cons]
    refine ⟨by omega, fun x hx => ?_⟩
    rcases List.mem_cons.mp hx with rfl | hx
    · omega
    · exact h2 x hx
theorem in_rows (V : List Int) (A : List (List Int)) : opIn (.tuple (V.map .int)) (.list (A.map rowI)) = some (.val (.bool (decide (V ∈ A)))) := by
  have h : SeqAt.shaped (.tuple (V.map .int)) = true ∧ SeqAt.shaped (.list (A.map rowI)) = true := ⟨shaped_tints V, shaped_rowsL A⟩
  unfold opIn seqOf
  have e : ((A.map rowI).any fun z => PyData.eqv z (.tuple (V.map .int))) = decide (V ∈ A) := by
    rw [Bool.eq_iff_iff, List.any_eq_true, decide_eq_true_iff]
    constructor
    · rintro ⟨z, hz, e⟩
      obtain ⟨r, hr, rfl⟩ := List.mem_map.mp hz
      rw [PyData.eqv, eqvAll_ints, decide_eq_true_iff] at e
      rw [← e]; exact hr
    · intro h
      refine ⟨rowI V, List.mem_map.mpr ⟨V, h, rfl⟩, ?_⟩
      rw [PyData.eqv, eqvAll_ints, decide_eq_true_iff]
  simp only [if_pos h, e]
section
variable {n : Nat} {ts : List (Nat × Nat)}
theorem min_max (hw : WebOk n ts) : ∃ a b : Int, fMin [.list ((lcI n ts).map .int)] = some (.val (.int a)) ∧ fMax [.list ((lcI n ts).map .int)] = some (.val (.int b)) ∧ (a = b → ∃ d : Nat, ∀ p, p < n → deg ts p = d) := by
  have hl := lcI_len n ts
  have h1 := hw.n1
  have hg := fun p (hp : p < n) => lcI_get (n := n) (ts := ts) hp
  cases e : lcI n ts with
  | nil => rw [e] at hl; simp at hl; omega
  | cons c l =>
    refine ⟨_, _, fMin_l c l, fMax_l c l, fun z => ⟨deg ts 0, fun p hp => ?_⟩⟩
    obtain ⟨m1, m2⟩ := min_le l c
    obtain ⟨x1, x2⟩ := le_max l c
    have all : ∀ x ∈ lcI n ts, x = c := fun x hx => by
      rw [e] at hx
      rcases List.mem_cons.mp hx with rfl | hx
      · rfl
      · have := m2 x hx; have := x2 x hx; omega
    have q := fun p (hp : p < n) => all ((lcI n ts).getD p 0) (by
      rw [List.getD_eq_getElem?_getD, List.getElem?_eq_getElem (by rw [lcI_len]; exact hp)]
      exact List.getElem_mem _)
    have q1 := q p hp
    have q2 := q 0 (by omega)
    rw [hg p hp] at q1
    rw [hg 0 (by omega)] at q2
    omega
theorem hub_in (h : ((n : Int) - 1) ∈ lcI n ts) : hubL n ts ≠ [] := by
  unfold hubL
  obtain ⟨k, hk, e⟩ := List.getElem_of_mem h
  intro z
  have : k ∈ ((lcI n ts).zipIdx.filterMap fun p => if decide (p.1 = (n : Int) - 1) = true then some p.2 else none) := by
    rw [List.mem_filterMap]
    refine ⟨((n : Int) - 1, k), ?_, by simp⟩
    rw [List.mem_zipIdx_iff_getElem?]
    simp [List.getElem?_eq_getElem hk, e]
  rw [z] at this
  simp at this
theorem right_run (hw : WebOk n ts) (hne : ∀ t ∈ ts, t.1 < t.2 ∧ t.2 < n) (nd : ts.Nodup) (hm5 : ts.length ≤ 5) : (M__law_right [(webD n ts, .fz)]).rv = some (.bool true, false) := by
  have hwt := web_ties n ts
  have hwn := web_n n ts
  have hnl := hw.nl
  have hne' : ∀ t ∈ ts, t.1 < n ∧ t.2 < n ∧ t.1 ≠ t.2 := fun t ht => by have := hne t ht; omega
  have hln : fLen [.tuple (ts.map tieD)] = some (.val (.int (ts.length : Nat))) := by rw [fLen_t, List.length_map]
  have hord := orders_run (m := ts.length) (by omega)
  have hol := ord_le (m := ts.length) (k := ts.length) (by omega) (by omega)
  have hop : ∀ r ∈ ordS ts.length ts.length, r.length = ts.length ∧ r.Perm (rgI 1 ((ts.length : Int) + 1)) := fun r hr => ⟨ord_mem hr, ord_perm.mp hr⟩
  have hlu : ∀ r ∈ ordS ts.length ts.length, (M__law_unlike [(webD n ts, .fz), (rowI r, .fz)]).rv = some (.bool (U n ts r), false) := fun r hr => lunl_run hw (ord_mem hr)
  have hgd : ∀ r ∈ ordS ts.length ts.length, (M_unlike_good [(webD n ts, .fz), (rowI r, .fz)]).rv = some (.bool (U n ts r), false) := fun r hr => ugood_run hw (hop r hr).1 (hop r hr).2
  have hc := count_run hw (by omega)
  obtain ⟨a, b, hmin, hmax, hab⟩ := min_max hw
  have hcomp : a = b → ∀ r ∈ ordS ts.length ts.length, U n ts r = true → (M_unlike_good [(webD n ts, .fz), (.tuple ((r.map fun x => (ts.length : Int) + 1 - x).map .int), .fz)]).rv = some (.bool true, false) := fun z r hr hu => by
    obtain ⟨d, hd⟩ := hab z
    obtain ⟨h1, h2⟩ := hop r hr
    obtain ⟨_, o2, o3⟩ := ord_iff.mp hr
    have h3 : (r.map fun x => (ts.length : Int) + 1 - x) ∈ ordS ts.length ts.length := ord_iff.mpr ⟨by rw [List.length_map, h1], List.Pairwise.map _ (fun a b hab z => hab (by omega)) o2, fun x hx => by
      obtain ⟨y, hy, rfl⟩ := List.mem_map.mp hx
      have := o3 y hy
      omega⟩
    have := ugood_run hw (ord_mem h3) (ord_perm.mp h3)
    rw [comp_U hne' hd _ h1 hu] at this
    exact this
  have hbar : G n ts ≠ [] → (M_unlike_bar [(webD n ts, .fz)]).rv = some (.none, false) := fun z => by
    obtain ⟨r, hr⟩ := List.exists_mem_of_ne_nil _ z
    obtain ⟨h1, h2⟩ := List.mem_filter.mp hr
    exact bar_none hw hne' (ord_mem h1) h2
  have hby : 3 ≤ n → ((n : Int) - 1) ∈ lcI n ts → ∃ V : List Int, V ∈ G n ts ∧ (M_unlike_by [(webD n ts, .fz), (.list ((rgI 1 ((ts.length : Int) + 1)).map .int), .fz)]).rv = some (.tuple (V.map .int), false) := fun h3 hh => by
    obtain ⟨V, v1, v2, v3, u1, _⟩ := unby_any hw h3 hne nd (hub_in hh) (X := rgI 1 ((ts.length : Int) + 1)) (rgI_len1 _) (fun x hx => by have := (rg_mem.mp hx).1; omega) (rg_nodup _ _) (by omega)
    exact ⟨V, List.mem_filter.mpr ⟨ord_perm.mpr v2, (U_iff V).mpr v3⟩, u1⟩
  have hGd : (ordS ts.length ts.length).filter (U n ts) = G n ts := rfl
  have hGl : (G n ts).length ≤ 720 := Nat.le_trans (List.length_filter_le _ _) hol
  have heq := eq_nilG (G n ts)
  have hin := fun V : List Int => in_rows V (G n ts)
  have hinc := fun x : Int => in_lints x (lcI n ts)
  have hlc : (List.range n).map (fun (p : Nat) => PyData.int ((deg ts p : Nat) : Int)) = (lcI n ts).map .int := by
    unfold lcI
    rw [List.map_map]
    rfl
  have hll := lcI_len n ts
  have hDl : ∀ p, ((ts.filter fun t => hasP t p).map tieD).length = deg ts p := fun p => by
    rw [List.length_map]
    unfold deg
    exact List.countP_eq_length_filter.symm
  have htie := fun (p : Nat) (t : Nat × Nat) => in_tie t p
  have fin : ∀ fl : Bool, (MM__law_orders [(.int (ts.length : Nat), .fz)]).rv = some (.list ((ordS ts.length ts.length).map rowI), fl) → gS (c__law_right [some (webD n ts, .fz), none, none, none, none, none, none, none, none, none]) (fun ρ => PyData.none = .bool true ∧ false = false) (fun d fr ρ => d = .bool true ∧ fr = false) (fun x ρ => False) := by
    intro fl hord
    generalize hG : G n ts = GG at *
    generalize U n ts = u at *
    generalize ordS ts.length ts.length = O at *
    generalize hWD : webD n ts = WD at *
    repeat' (first | (apply gO_of hwt) | (apply gO_of hwn) | (apply gO_of hln) | array_mem_dec)
    refine TN.cp_rng (n) (fun p => PyData.int ((deg ts p : Nat) : Int)) (by (first | omega | exact rfl)) (by (first | omega | (simp; done) | (simp; omega))) (by (first | exact rfl | (repeat (first | exact TN.wOk_nil | ((apply TN.wOk_cons); exact rfl; (first | exact TN.okW_none | exact TN.okW_fz | exact TN.okW_jk | assumption)))))) (by (repeat (first | exact wipe_nil | apply wipe_cons | exact st0 | apply stS))) ?_ ?_
    · intro p hp
      repeat' (first | (apply gO_of hwt) | array_mem_dec)
      refine TN.cp_filter ts tieD (fun t => if hasP t p = true then some (tieD t) else none) rfl (by omega) (by (first | exact rfl | (repeat (first | exact TN.wOk_nil | ((apply TN.wOk_cons); exact rfl; (first | exact TN.okW_none | exact TN.okW_fz | exact TN.okW_jk | assumption)))))) (by (repeat (first | exact wipe_nil | apply wipe_cons | exact st0 | apply stS))) ?_ ?_
      · intro t ht
        have q := htie p t
        generalize tieD t = TT at *
        cases hv : hasP t p with
        | true =>
          rw [hv] at q
          repeat' (first | (apply gO_of q) | array_mem_dec)
          exact ⟨rfl, rfl⟩
        | false =>
          rw [hv] at q
          repeat' (first | (apply gO_of q) | array_mem_dec)
          exact ⟨rfl, rfl⟩
      · rw [fm_if]
        repeat' array_mem_dec
        exact ⟨by rw [← hDl p, List.length_map], rfl⟩
    · rw [hlc]
      cases fl with
      | true =>
       repeat' (first | array_mem_dec | ((with_reducible refine TN.c_rvT ?_ ?_ hord ?_); exact rfl; exact rfl))
       refine for_inv O rowI (fun pre ρ => ∃ j4 j5 j6, ρ = [some (WD, .fz), some (.int (ts.length : Nat), .fz), some (.list ((lcI n ts).map .int), .own), some (.list ((pre.filter u).map rowI), .own), jk j4, jk j5, jk j6, none, none, none]) rfl ⟨none, none, none, rfl⟩ ?_ ?_
       · rintro pre r post _ hE ⟨j4, j5, j6, rfl⟩
         have hr : r ∈ O := by rw [hE]; simp
         have q1 := hlu r hr
         have q2 := hgd r hr
         have hpl : ((pre.filter u).map rowI).length ≤ 1000 := by
           rw [List.length_map]
           have h1 := List.length_filter_le u pre
           have h2 := congrArg List.length hE
           rw [List.length_append] at h2
           omega
         have hfa : ((pre ++ [r]).filter u).map rowI = (pre.filter u).map rowI ++ (if u r = true then [rowI r] else []) := by
           rw [List.filter_append, List.map_append]
           by_cases z : u r = true
           · rw [if_pos z, List.filter_cons_of_pos z]; rfl
           · rw [if_neg z, List.filter_cons_of_neg z]; rfl
         rw [hfa]
         cases hv : u r with
         | false =>
           rw [hv] at q1 q2
           rw [if_neg Bool.false_ne_true, List.append_nil]
           generalize (pre.filter u).map rowI = PL at *
           generalize hCD : (lcI n ts).map PyData.int = CD at *
           repeat' (first | array_mem_dec | ((with_reducible refine TN.c_rv ?_ ?_ q1 ?_); exact rfl; exact rfl) | ((with_reducible refine TN.c_rv ?_ ?_ q2 ?_); exact rfl; exact rfl))
           exact ⟨some (rowI r), some (.bool false), some (.bool false), rfl⟩
         | true =>
           rw [hv] at q1 q2
           rw [if_pos rfl]
           have q3 := fun z => hcomp z r hr hv
           have hrl : r.length ≤ 1000 := by have := (hop r hr).1; omega
           generalize (pre.filter u).map rowI = PL at *
           generalize hCD : (lcI n ts).map PyData.int = CD at *
           repeat' (first | (with_reducible apply gO_of hmin) | (with_reducible apply gO_of hmax) | array_mem_dec | ((with_reducible refine TN.c_rv ?_ ?_ q1 ?_); exact rfl; exact rfl) | ((with_reducible refine TN.c_rv ?_ ?_ q2 ?_); exact rfl; exact rfl))
           refine br_dec (fun z => ?_) fun z => ?_
           · have q3 := q3 z
             repeat' array_mem_dec
             refine TN.cp_map (r) (.int) (fun x => .int ((ts.length : Int) + 1 - x)) rfl (by (first | omega | (simp; done) | (simp; omega))) (by (first | exact rfl | (repeat (first | exact TN.wOk_nil | ((apply TN.wOk_cons); exact rfl; (first | exact TN.okW_none | exact TN.okW_fz | exact TN.okW_jk | assumption)))))) (by (repeat (first | exact wipe_nil | apply wipe_cons | exact st0 | apply stS))) ?_ ?_
             · intro x hx
               repeat' array_mem_dec
               exact ⟨rfl, rfl⟩
             · have e : (r.map fun x => PyData.int ((ts.length : Int) + 1 - x)) = (r.map fun x => (ts.length : Int) + 1 - x).map .int := by rw [List.map_map]; rfl
               rw [e]
               generalize (r.map fun x => (ts.length : Int) + 1 - x).map PyData.int = RD at *
               repeat' (first | array_mem_dec | ((with_reducible refine TN.c_rv ?_ ?_ q3 ?_); exact rfl; exact rfl))
               exact ⟨some (rowI r), some (.bool true), some (.bool true), rfl⟩
           · repeat' array_mem_dec
             exact ⟨some (rowI r), some (.bool true), some (.bool true), rfl⟩
       · rintro _ ⟨j4, j5, j6, rfl⟩
         rw [hGd]
         have hlG : fLen [.list (GG.map rowI)] = some (.val (.int (GG.length : Nat))) := by rw [fLen_l, List.length_map]
         have hn1 : opIn (.int ((n : Int) - 1)) (.list ((lcI n ts).map .int)) = some (.val (.bool (decide (((n : Int) - 1) ∈ lcI n ts)))) := in_lints _ _
         have tail : ∀ b : Prop, gS (cSeq (cIf (cAnd (cTst (cBin opGt (cBin opIx (cVar 0) (cLit (.int 0))) (cLit (.int 2)))) (cTst (cBin opIn (cBin opSub (cBin opIx (cVar 0) (cLit (.int 0))) (cLit (.int 1))) (cVar 2))))
             (cRet (cBin opIn (cCall M_unlike_by (cCons (cVar 0) (cCons (cLstRg (cRg2 (cLit (.int 1)) (cBin opAdd (cVar 1) (cLit (.int 1))))) cNil))) (cVar 3)))
             cSkip)
             (cRet (cLit (.bool true))) [some (WD, .fz), some (.int (ts.length : Nat), .fz), some (.list ((lcI n ts).map .int), .own), some (.list (GG.map rowI), .own), jk j4, jk j5, jk j6, none, none, none]) (fun ρ => PyData.none = .bool true ∧ false = false) (fun d fr ρ => d = .bool true ∧ fr = false) (fun x ρ => False) := by
           intro _
           generalize hCD : (lcI n ts).map PyData.int = CD at *
           repeat' (first | (apply gO_of hwn) | array_mem_dec)
           refine br_dec (fun h3 => ?_) fun h3 => ?_
           · repeat' (first | (apply gO_of hwn) | (with_reducible apply gO_of hn1) | array_mem_dec)
             refine br_dec (fun hh => ?_) fun hh => ?_
             · obtain ⟨V, hV, u1⟩ := hby (by omega) hh
               have hi := hin V
               rw [decide_eq_true hV] at hi
               repeat' (first | (with_reducible apply gO_of hi) | array_mem_dec | ((with_reducible refine TN.c_rv ?_ ?_ u1 ?_); exact rfl; exact rfl))
               exact ⟨rfl, rfl⟩
             · repeat' array_mem_dec
               exact ⟨rfl, rfl⟩
           · repeat' array_mem_dec
             exact ⟨rfl, rfl⟩
         by_cases hz : GG = []
         · have h2 := heq.2
           rw [decide_eq_true hz] at h2
           repeat' (first | (with_reducible apply gO_of hlG) | (with_reducible apply gO_of h2) | (with_reducible exact tail True) | array_mem_dec | ((with_reducible refine TN.c_rv ?_ ?_ hc ?_); exact rfl; exact rfl))
         · have h2 := heq.2
           rw [decide_eq_false hz] at h2
           have hb := hbar hz
           repeat' (first | (with_reducible apply gO_of hlG) | (with_reducible apply gO_of h2) | (with_reducible exact tail True) | array_mem_dec | ((with_reducible refine TN.c_rv ?_ ?_ hc ?_); exact rfl; exact rfl) | ((with_reducible refine TN.c_rv ?_ ?_ hb ?_); exact rfl; exact rfl))
      | false =>
       repeat' (first | array_mem_dec | ((with_reducible refine TN.c_rv ?_ ?_ hord ?_); exact rfl; exact rfl))
       refine for_inv O rowI (fun pre ρ => ∃ j4 j5 j6, ρ = [some (WD, .fz), some (.int (ts.length : Nat), .fz), some (.list ((lcI n ts).map .int), .own), some (.list ((pre.filter u).map rowI), .own), jk j4, jk j5, jk j6, none, none, none]) rfl ⟨none, none, none, rfl⟩ ?_ ?_
       · rintro pre r post _ hE ⟨j4, j5, j6, rfl⟩
         have hr : r ∈ O := by rw [hE]; simp
         have q1 := hlu r hr
         have q2 := hgd r hr
         have hpl : ((pre.filter u).map rowI).length ≤ 1000 := by
           rw [List.length_map]
           have h1 := List.length_filter_le u pre
           have h2 := congrArg List.length hE
           rw [List.length_append] at h2
           omega
         have hfa : ((pre ++ [r]).filter u).map rowI = (pre.filter u).map rowI ++ (if u r = true then [rowI r] else []) := by
           rw [List.filter_append, List.map_append]
           by_cases z : u r = true
           · rw [if_pos z, List.filter_cons_of_pos z]; rfl
           · rw [if_neg z, List.filter_cons_of_neg z]; rfl
         rw [hfa]
         cases hv : u r with
         | false =>
           rw [hv] at q1 q2
           rw [if_neg Bool.false_ne_true, List.append_nil]
           generalize (pre.filter u).map rowI = PL at *
           generalize hCD : (lcI n ts).map PyData.int = CD at *
           repeat' (first | array_mem_dec | ((with_reducible refine TN.c_rv ?_ ?_ q1 ?_); exact rfl; exact rfl) | ((with_reducible refine TN.c_rv ?_ ?_ q2 ?_); exact rfl; exact rfl))
           exact ⟨some (rowI r), some (.bool false), some (.bool false), rfl⟩
         | true =>
           rw [hv] at q1 q2
           rw [if_pos rfl]
           have q3 := fun z => hcomp z r hr hv
           have hrl : r.length ≤ 1000 := by have := (hop r hr).1; omega
           generalize (pre.filter u).map rowI = PL at *
           generalize hCD : (lcI n ts).map PyData.int = CD at *
           repeat' (first | (with_reducible apply gO_of hmin) | (with_reducible apply gO_of hmax) | array_mem_dec | ((with_reducible refine TN.c_rv ?_ ?_ q1 ?_); exact rfl; exact rfl) | ((with_reducible refine TN.c_rv ?_ ?_ q2 ?_); exact rfl; exact rfl))
           refine br_dec (fun z => ?_) fun z => ?_
           · have q3 := q3 z
             repeat' array_mem_dec
             refine TN.cp_map (r) (.int) (fun x => .int ((ts.length : Int) + 1 - x)) rfl (by (first | omega | (simp; done) | (simp; omega))) (by (first | exact rfl | (repeat (first | exact TN.wOk_nil | ((apply TN.wOk_cons); exact rfl; (first | exact TN.okW_none | exact TN.okW_fz | exact TN.okW_jk | assumption)))))) (by (repeat (first | exact wipe_nil | apply wipe_cons | exact st0 | apply stS))) ?_ ?_
             · intro x hx
               repeat' array_mem_dec
               exact ⟨rfl, rfl⟩
             · have e : (r.map fun x => PyData.int ((ts.length : Int) + 1 - x)) = (r.map fun x => (ts.length : Int) + 1 - x).map .int := by rw [List.map_map]; rfl
               rw [e]
               generalize (r.map fun x => (ts.length : Int) + 1 - x).map PyData.int = RD at *
               repeat' (first | array_mem_dec | ((with_reducible refine TN.c_rv ?_ ?_ q3 ?_); exact rfl; exact rfl))
               exact ⟨some (rowI r), some (.bool true), some (.bool true), rfl⟩
           · repeat' array_mem_dec
             exact ⟨some (rowI r), some (.bool true), some (.bool true), rfl⟩
       · rintro _ ⟨j4, j5, j6, rfl⟩
         rw [hGd]
         have hlG : fLen [.list (GG.map rowI)] = some (.val (.int (GG.length : Nat))) := by rw [fLen_l, List.length_map]
         have hn1 : opIn (.int ((n : Int) - 1)) (.list ((lcI n ts).map .int)) = some (.val (.bool (decide (((n : Int) - 1) ∈ lcI n ts)))) := in_lints _ _
         have tail : ∀ b : Prop, gS (cSeq (cIf (cAnd (cTst (cBin opGt (cBin opIx (cVar 0) (cLit (.int 0))) (cLit (.int 2)))) (cTst (cBin opIn (cBin opSub (cBin opIx (cVar 0) (cLit (.int 0))) (cLit (.int 1))) (cVar 2))))
             (cRet (cBin opIn (cCall M_unlike_by (cCons (cVar 0) (cCons (cLstRg (cRg2 (cLit (.int 1)) (cBin opAdd (cVar 1) (cLit (.int 1))))) cNil))) (cVar 3)))
             cSkip)
             (cRet (cLit (.bool true))) [some (WD, .fz), some (.int (ts.length : Nat), .fz), some (.list ((lcI n ts).map .int), .own), some (.list (GG.map rowI), .own), jk j4, jk j5, jk j6, none, none, none]) (fun ρ => PyData.none = .bool true ∧ false = false) (fun d fr ρ => d = .bool true ∧ fr = false) (fun x ρ => False) := by
           intro _
           generalize hCD : (lcI n ts).map PyData.int = CD at *
           repeat' (first | (apply gO_of hwn) | array_mem_dec)
           refine br_dec (fun h3 => ?_) fun h3 => ?_
           · repeat' (first | (apply gO_of hwn) | (with_reducible apply gO_of hn1) | array_mem_dec)
             refine br_dec (fun hh => ?_) fun hh => ?_
             · obtain ⟨V, hV, u1⟩ := hby (by omega) hh
               have hi := hin V
               rw [decide_eq_true hV] at hi
               repeat' (first | (with_reducible apply gO_of hi) | array_mem_dec | ((with_reducible refine TN.c_rv ?_ ?_ u1 ?_); exact rfl; exact rfl))
               exact ⟨rfl, rfl⟩
             · repeat' array_mem_dec
               exact ⟨rfl, rfl⟩
           · repeat' array_mem_dec
             exact ⟨rfl, rfl⟩
         by_cases hz : GG = []
         · have h2 := heq.2
           rw [decide_eq_true hz] at h2
           repeat' (first | (with_reducible apply gO_of hlG) | (with_reducible apply gO_of h2) | (with_reducible exact tail True) | array_mem_dec | ((with_reducible refine TN.c_rv ?_ ?_ hc ?_); exact rfl; exact rfl))
         · have h2 := heq.2
           rw [decide_eq_false hz] at h2
           have hb := hbar hz
           repeat' (first | (with_reducible apply gO_of hlG) | (with_reducible apply gO_of h2) | (with_reducible exact tail True) | array_mem_dec | ((with_reducible refine TN.c_rv ?_ ?_ hc ?_); exact rfl; exact rfl) | ((with_reducible refine TN.c_rv ?_ ?_ hb ?_); exact rfl; exact rfl))
  with_reducible refine rv_gF (in__law_right ?_)
  exact fin _ hord
end
end K68
namespace K68
open PySem PySem.Spec PyProof.Rows L2 TN
theorem law_true : ∀ ns : List Int, ns.length ≤ 63 → ∃ outs, M_law [(.list (ns.map PyData.int), .fz)] = .ok (.bool true) false outs := by
  intro ns hn
  with_reducible refine FR.rv_ok (rv_gF (in_law ?_))
  generalize hsc : (some (.list (ns.map PyData.int), .fz) : Slot) = sc
  have r1 : (M__law_right [(.tuple [.int 2, .tuple [.tuple [.int 0, .int 1]]], .fz)]).rv = some (.bool true, false) := right_run (n := 2) (ts := [(0, 1)]) ⟨by decide, by decide, by decide, by decide⟩ (by decide) (by decide) (by decide)
  have r2 : (M__law_right [(.tuple [.int 5, .tuple [.tuple [.int 0, .int 1], .tuple [.int 0, .int 4], .tuple [.int 1, .int 2], .tuple [.int 2, .int 3], .tuple [.int 3, .int 4]]], .fz)]).rv = some (.bool true, false) := right_run (n := 5) (ts := [(0, 1), (0, 4), (1, 2), (2, 3), (3, 4)]) ⟨by decide, by decide, by decide, by decide⟩ (by decide) (by decide) (by decide)
  repeat' (first | (refine s_for (gE_ok (cells_it 2 (by rw [← hsc]; rfl) hn) ?_)) | array_mem_dec | ((with_reducible refine TN.c_rv ?_ ?_ r1 ?_); exact rfl; exact rfl) | ((with_reducible refine TN.c_rv ?_ ?_ r2 ?_); exact rfl; exact rfl))
  refine for_inv (cellAt ns 0 :: (ns.take 2).drop 1) PyData.int (fun _ ρ => ∃ j1 s2 j3, okS s2 ∧ ρ = [sc, jk j1, s2, jk j3]) rfl ⟨none, none, none, trivial, rfl⟩ ?_ ?_
  · rintro pre c post _ hE ⟨j1, s2, j3, o2, rfl⟩
    repeat' array_mem_dec
    intro p1
    obtain ⟨n, ts, p2, _, hg, hM⟩ := web_by_run p1 6 (by omega) (by omega)
    have hM : M__law_web_by [(p1.d, .lent), (.int 6, .fz)] = .ok (webD n ts) false [some (p2.d, .lent), some (.int 6, .fz)] := hM
    have hwt := web_ties n ts
    have hwn := web_n n ts
    have hsub : (ts.take 5).Sublist ts := List.take_sublist _ _
    have hlt : ∀ t ∈ ts.take 5, t.1 < t.2 ∧ t.2 < n := fun t ht => hg.lt t (hsub.subset ht)
    have hw : WebOk n (ts.take 5) := ⟨hg.n1, by have := hg.nl; omega, by rw [List.length_take]; omega, fun t ht => by have := hlt t ht; omega⟩
    have q := right_run hw hlt (hg.nd.sublist hsub) (by rw [List.length_take]; omega)
    have hcut : cutL (ts.map tieD) none (some 5) = (ts.take 5).map tieD := by
      rw [List.map_take]
      exact cut_to (ts.map tieD) 5
    have q : (M__law_right [(.tuple [.int (n : Nat), .tuple ((ts.take 5).map tieD)], .fz)]).rv = some (.bool true, false) := q
    generalize webD n ts = WD at *
    generalize (ts.take 5).map tieD = T5 at *
    generalize ts.map tieD = TD at *
    repeat' (first | (refine c_gen (ρ1 := [sc, some (.int c, .fz), some (p2.d, .own), jk j3]) rfl rfl hM (by rw [← hsc]; cases j3 <;> rfl) ?_) | (apply gO_of hwt) | (apply gO_of hwn) | (rw [hcut]) | array_mem_dec | ((with_reducible refine TN.c_rv ?_ ?_ q ?_); exact rfl; exact rfl))
    exact ⟨some (.int c), some (p2.d, .own), some WD, okS_own, rfl⟩
  · rintro _ ⟨j1, s2, j3, o2, rfl⟩
    repeat' array_mem_dec
    exact ⟨rfl, rfl⟩
end K68
namespace K68
open PySem PySem.Spec PyProof.Rows L2 TN
theorem sc_I_TooGreat : FnScope ["self", "many", "most"] ["self", "many", "most"] (defScope s_I_TooGreat) := ⟨rfl, rfl, rfl, by decide +kernel, rfl, by decide +kernel, by decide +kernel⟩
theorem ra_TooGreat {P : Program} {w : World} {K : PySem.W.Frag} {mg : Str → Option Value} {base : Heap} {fd : FuncData} (F : FunD K "__init__" "TooGreat.__init__" (defArgs s_I_TooGreat) (defBody s_I_TooGreat) (defScope s_I_TooGreat) [] [] (iniA K "TooGreat") fd) (O : oxAll RS K = true) (hm : mg "TooGreat" = some (.ref (He.ga K "TooGreat"))) :
    RaiseA P w K mg base 1 "TooGreat" ["many", "most"] :=
  raise2 F sc_I_TooGreat (ox_of O (by decide)) hm (fun _ _ _ _ _ _ us hl => match us, hl with | [_, _, _], _ => rfl) rfl fun cdv A outer s H E => ⟨⟨pe_var rfl (.inl rfl), pe_var rfl (.inl rfl), rfl⟩, ⟨pe_var rfl (.inl rfl), pe_var rfl (.inl rfl), rfl⟩⟩
theorem sc__law_orders : FnScope ["many", "found", "turn", "more", "row", "one"] ["many"] (defScope s__law_orders) := ⟨rfl, rfl, rfl, by decide +kernel, rfl, by decide +kernel, by decide +kernel⟩
theorem ok__law_orders {P : Program} {w : World} {K : PySem.W.Frag} {mg : Str → Option Value} {base : Heap} {f : Addr} {fd : FuncData} (F : FunD K "_law_orders" "_law_orders" (defArgs s__law_orders) (defBody s__law_orders) (defScope s__law_orders) [] [] f fd) (hm : mg "_law_orders" = some (.ref f)) (h_range : mg "range" = none) :
    Callee P w K mg base 1 "_law_orders" 1 M__law_orders :=
  calleeOf F sc__law_orders hm (fun _ _ _ _ _ _ us hl => match us, hl with | [_], _ => rfl) fun cdv A outer s H E hr =>
  (ss_cons (ss_set 1 sc__law_orders.nd (sx_lst (sa_cons (sx_tup sa_nil) sa_nil)))
  (ss_cons (ss_for rfl (si_rng1 rfl h_range (sx_var 0)) (sg_name 2 sc__law_orders.nd)
  (ss_cons (ss_set 3 sc__law_orders.nd (sx_lst sa_nil))
  (ss_cons (ss_for rfl (si_seq (sx_var 1)) (sg_name 4 sc__law_orders.nd)
  (ss_one (ss_expr (sx_mutL 3 PySem.F.plainAttrs_list PySem.F.slot_list_extend rfl mt_extendA (extend_ok _) (sa_cons (sx_comp rfl sc__law_orders.nd (si_rng2 rfl h_range sx_int (sx_bin op_addA (add_ok _) (sx_var 0) sx_int)) (own := [("one", 5)]) (blkB_ok (by kernel_rfl)) (by decide) (fun s H C cl fp => (sg_name 5 sc__law_orders.nd)) (fun s H C cl fp => (spt_one (st_cmp (op_notInA (u65 hr)) (notIn_ok _) (sx_var 5) (sx_var 4)))) (fun s H C cl fp => (sx_bin op_addA (add_ok _) (sx_var 4) (sx_tup (sa_cons (sx_var 5) sa_nil))))) sa_nil)))))
  (ss_one (ss_set 1 sc__law_orders.nd (sx_var 3))))))
  (ss_one (ss_ret (sx_var 1)))))
theorem sc__law_sums_of : FnScope ["web", "numbers", "found", "k", "a", "b"] ["web", "numbers"] (defScope s__law_sums_of) := ⟨rfl, rfl, rfl, by decide +kernel, rfl, by decide +kernel, by decide +kernel⟩
theorem ok__law_sums_of {P : Program} {w : World} {K : PySem.W.Frag} {mg : Str → Option Value} {base : Heap} {f : Addr} {fd : FuncData} (F : FunD K "_law_sums_of" "_law_sums_of" (defArgs s__law_sums_of) (defBody s__law_sums_of) (defScope s__law_sums_of) [] [] f fd) (hm : mg "_law_sums_of" = some (.ref f)) (h_enumerate : mg "enumerate" = none) :
    Callee P w K mg base 1 "_law_sums_of" 2 M__law_sums_of :=
  calleeOf F sc__law_sums_of hm (fun _ _ _ _ _ _ us hl => match us, hl with | [_, _], _ => rfl) fun cdv A outer s H E hr =>
  (ss_cons (ss_set 2 sc__law_sums_of.nd (sx_bin op_mulA (mul_ok _) (sx_lst (sa_cons sx_int sa_nil)) (sx_item (u65 hr) (sx_var 0) sx_int)))
  (ss_cons (ss_for rfl (si_enum rfl h_enumerate (sx_item (u65 hr) (sx_var 0) sx_int)) (sg_tup rfl (sgs_cons (sg_name 3 sc__law_sums_of.nd) (sgs_cons (sg_tup rfl (sgs_cons (sg_name 4 sc__law_sums_of.nd) (sgs_cons (sg_name 5 sc__law_sums_of.nd) sgs_nil))) sgs_nil)))
  (ss_cons (ss_unp (sx_bin op_addA (add_ok _) (sx_item (u65 hr) (sx_var 2) (sx_var 4)) (sx_item (u65 hr) (sx_var 1) (sx_var 3))) (sg_put 2 (set_any (u65 hr)) (putA_ok _) (sx_var 4)))
  (ss_one (ss_unp (sx_bin op_addA (add_ok _) (sx_item (u65 hr) (sx_var 2) (sx_var 5)) (sx_item (u65 hr) (sx_var 1) (sx_var 3))) (sg_put 2 (set_any (u65 hr)) (putA_ok _) (sx_var 5))))))
  (ss_one (ss_ret (sx_var 2)))))
theorem sc__law_unlike : FnScope ["web", "numbers", "sums", "k"] ["web", "numbers"] (defScope s__law_unlike) := ⟨rfl, rfl, rfl, by decide +kernel, rfl, by decide +kernel, by decide +kernel⟩
theorem ok__law_unlike {P : Program} {w : World} {K : PySem.W.Frag} {mg : Str → Option Value} {base : Heap} {f : Addr} {fd : FuncData} (F : FunD K "_law_unlike" "_law_unlike" (defArgs s__law_unlike) (defBody s__law_unlike) (defScope s__law_unlike) [] [] f fd) (hm : mg "_law_unlike" = some (.ref f)) (h_sorted : mg "sorted" = none) (h_range : mg "range" = none) (h_len : mg "len" = none) (C__law_sums_of : Callee P w K mg base 1 "_law_sums_of" 2 M__law_sums_of) :
    Callee P w K mg base 2 "_law_unlike" 2 M__law_unlike :=
  calleeOf F sc__law_unlike hm (fun _ _ _ _ _ _ us hl => match us, hl with | [_, _], _ => rfl) fun cdv A outer s H E hr =>
  (ss_cons (ss_set 2 sc__law_unlike.nd (sx_callB (cr_sortD hr) (sorted_ok _) rfl h_sorted boot_sorted (sa_cons (sx_callC C__law_sums_of hr rfl (lenA_cons (lenA_cons lenA_nil)) (sa_cons (sx_var 0) (sa_cons (sx_var 1) sa_nil))) sa_nil)))
  (ss_cons (ss_for rfl (si_rng1 rfl h_range (sx_bin op_sub (sub_ok _) (sx_callB cr_lenA (len_ok _) rfl h_len boot_len (sa_cons (sx_var 2) sa_nil)) sx_int)) (sg_name 3 sc__law_unlike.nd)
  (ss_one (ss_if (st_cmp (op_eqD (u64 hr)) (eq_ok _) (sx_item (u65 hr) (sx_var 2) (sx_var 3)) (sx_item (u65 hr) (sx_var 2) (sx_bin op_addA (add_ok _) (sx_var 3) sx_int)))
  (ss_one (ss_ret sx_bl))
  ss_nil)))
  (ss_one (ss_ret sx_bl))))
theorem sc_is_whole : FnScope ["thing"] ["thing"] (defScope s_is_whole) := ⟨rfl, rfl, rfl, by decide +kernel, rfl, by decide +kernel, by decide +kernel⟩
theorem ok_is_whole {P : Program} {w : World} {K : PySem.W.Frag} {mg : Str → Option Value} {base : Heap} {f : Addr} {fd : FuncData} (F : FunD K "is_whole" "is_whole" (defArgs s_is_whole) (defBody s_is_whole) (defScope s_is_whole) [] [] f fd) (hm : mg "is_whole" = some (.ref f)) (h_isinstance : mg "isinstance" = none) (h_int : mg "int" = none) (h_bool : mg "bool" = none) :
    Callee P w K mg base 1 "is_whole" 1 M_is_whole :=
  calleeOf F sc_is_whole hm (fun _ _ _ _ _ _ us hl => match us, hl with | [_], _ => rfl) fun cdv A outer s H E hr =>
  (ss_one (ss_ret (sx_and (sx_isi rfl h_isinstance rfl h_int boot_int (sx_var 0)) (sx_one (sx_not (sx_isi rfl h_isinstance rfl h_bool boot_bool (sx_var 0)))))))
theorem sc_are_numbers : FnScope ["thing", "size", "one"] ["thing", "size"] (defScope s_are_numbers) := ⟨rfl, rfl, rfl, by decide +kernel, rfl, by decide +kernel, by decide +kernel⟩
theorem ok_are_numbers {P : Program} {w : World} {K : PySem.W.Frag} {mg : Str → Option Value} {base : Heap} {f : Addr} {fd : FuncData} (F : FunD K "are_numbers" "are_numbers" (defArgs s_are_numbers) (defBody s_are_numbers) (defScope s_are_numbers) [] [] f fd) (hm : mg "are_numbers" = some (.ref f)) (h_isinstance : mg "isinstance" = none) (h_tuple : mg "tuple" = none) (h_len : mg "len" = none) (h_all : mg "all" = none) (C_is_whole : Callee P w K mg base 1 "is_whole" 1 M_is_whole) :
    Callee P w K mg base 2 "are_numbers" 2 M_are_numbers :=
  calleeOf F sc_are_numbers hm (fun _ _ _ _ _ _ us hl => match us, hl with | [_, _], _ => rfl) fun cdv A outer s H E hr =>
  (ss_one (ss_ret (sx_and (sx_isi rfl h_isinstance rfl h_tuple boot_tuple (sx_var 0)) (sx_and (sx_cmp (op_eqD (u64 hr)) (eq_ok _) (sx_callB cr_lenA (len_ok _) rfl h_len boot_len (sa_cons (sx_var 0) sa_nil)) (sx_var 1)) (sx_one (sx_callB (cr_all rfl) (all_ok _) rfl h_all boot_all (sa_cons (sx_comp rfl sc_are_numbers.nd (si_seq (sx_var 0)) (own := [("one", 2)]) (blkB_ok (by kernel_rfl)) (by decide) (fun s H C cl fp => (sg_name 2 sc_are_numbers.nd)) (fun s H C cl fp => spt_nil) (fun s H C cl fp => (sx_callC C_is_whole hr rfl (lenA_cons lenA_nil) (sa_cons (sx_var 2) sa_nil)))) sa_nil)))))))
theorem sc_sums_at : FnScope ["web", "numbers", "found", "number", "a", "b"] ["web", "numbers"] (defScope s_sums_at) := ⟨rfl, rfl, rfl, by decide +kernel, rfl, by decide +kernel, by decide +kernel⟩
theorem ok_sums_at {P : Program} {w : World} {K : PySem.W.Frag} {mg : Str → Option Value} {base : Heap} {f : Addr} {fd : FuncData} (F : FunD K "sums_at" "sums_at" (defArgs s_sums_at) (defBody s_sums_at) (defScope s_sums_at) [] [] f fd) (hm : mg "sums_at" = some (.ref f)) (h_zip : mg "zip" = none) :
    Callee P w K mg base 1 "sums_at" 2 M_sums_at :=
  calleeOf F sc_sums_at hm (fun _ _ _ _ _ _ us hl => match us, hl with | [_, _], _ => rfl) fun cdv A outer s H E hr =>
  (ss_cons (ss_set 2 sc_sums_at.nd (sx_bin op_mulA (mul_ok _) (sx_lst (sa_cons sx_int sa_nil)) (sx_item (u65 hr) (sx_var 0) sx_int)))
  (ss_cons (ss_for rfl (si_zipM rfl h_zip (sx_item (u65 hr) (sx_var 0) sx_int) (sx_var 1)) (sg_tup rfl (sgs_cons (sg_tup rfl (sgs_cons (sg_name 4 sc_sums_at.nd) (sgs_cons (sg_name 5 sc_sums_at.nd) sgs_nil))) (sgs_cons (sg_name 3 sc_sums_at.nd) sgs_nil)))
  (ss_cons (ss_unp (sx_bin op_addA (add_ok _) (sx_item (u65 hr) (sx_var 2) (sx_var 4)) (sx_var 3)) (sg_put 2 (set_any (u65 hr)) (putA_ok _) (sx_var 4)))
  (ss_one (ss_unp (sx_bin op_addA (add_ok _) (sx_item (u65 hr) (sx_var 2) (sx_var 5)) (sx_var 3)) (sg_put 2 (set_any (u65 hr)) (putA_ok _) (sx_var 5))))))
  (ss_one (ss_ret (sx_var 2)))))
theorem sc_sums_unlike : FnScope ["web", "numbers"] ["web", "numbers"] (defScope s_sums_unlike) := ⟨rfl, rfl, rfl, by decide +kernel, rfl, by decide +kernel, by decide +kernel⟩
theorem ok_sums_unlike {P : Program} {w : World} {K : PySem.W.Frag} {mg : Str → Option Value} {base : Heap} {f : Addr} {fd : FuncData} (F : FunD K "sums_unlike" "sums_unlike" (defArgs s_sums_unlike) (defBody s_sums_unlike) (defScope s_sums_unlike) [] [] f fd) (hm : mg "sums_unlike" = some (.ref f)) (h_len : mg "len" = none) (h_set : mg "set" = none) (C_sums_at : Callee P w K mg base 1 "sums_at" 2 M_sums_at) :
    Callee P w K mg base 2 "sums_unlike" 2 M_sums_unlike :=
  calleeOf F sc_sums_unlike hm (fun _ _ _ _ _ _ us hl => match us, hl with | [_, _], _ => rfl) fun cdv A outer s H E hr =>
  (ss_one (ss_ret (sx_cmp (op_eqD (u64 hr)) (eq_ok _) (sx_lenSet rfl rfl h_len rfl h_set (sx_callC C_sums_at hr rfl (lenA_cons (lenA_cons lenA_nil)) (sa_cons (sx_var 0) (sa_cons (sx_var 1) sa_nil)))) (sx_item (u65 hr) (sx_var 0) sx_int))))
theorem sc_unlike_good : FnScope ["web", "thing", "last"] ["web", "thing"] (defScope s_unlike_good) := ⟨rfl, rfl, rfl, by decide +kernel, rfl, by decide +kernel, by decide +kernel⟩
theorem ok_unlike_good {P : Program} {w : World} {K : PySem.W.Frag} {mg : Str → Option Value} {base : Heap} {f : Addr} {fd : FuncData} (F : FunD K "unlike_good" "unlike_good" (defArgs s_unlike_good) (defBody s_unlike_good) (defScope s_unlike_good) [] [] f fd) (hm : mg "unlike_good" = some (.ref f)) (h_len : mg "len" = none) (h_sorted : mg "sorted" = none) (h_range : mg "range" = none) (h_list : mg "list" = none) (C_are_numbers : Callee P w K mg base 2 "are_numbers" 2 M_are_numbers) (C_sums_unlike : Callee P w K mg base 2 "sums_unlike" 2 M_sums_unlike) :
    Callee P w K mg base 3 "unlike_good" 2 M_unlike_good :=
  calleeOf F sc_unlike_good hm (fun _ _ _ _ _ _ us hl => match us, hl with | [_, _], _ => rfl) fun cdv A outer s H E hr =>
  (ss_cons (ss_set 2 sc_unlike_good.nd (sx_callB cr_lenA (len_ok _) rfl h_len boot_len (sa_cons (sx_item (u65 hr) (sx_var 0) sx_int) sa_nil)))
  (ss_cons (ss_if (st_w (sw_or (st_not (st_val (sx_callC C_are_numbers hr rfl (lenA_cons (lenA_cons lenA_nil)) (sa_cons (sx_var 1) (sa_cons (sx_var 2) sa_nil))))) (sw_or1 (st_cmp (op_neD (u64 hr)) (ne_ok _) (sx_callB (cr_sortD hr) (sorted_ok _) rfl h_sorted boot_sorted (sa_cons (sx_var 1) sa_nil)) (sx_lstRg rfl rfl h_list (sr_2 rfl h_range sx_int (sx_bin op_addA (add_ok _) (sx_var 2) sx_int)))))))
  (ss_one (ss_ret sx_bl))
  ss_nil)
  (ss_one (ss_ret (sx_callC C_sums_unlike hr rfl (lenA_cons (lenA_cons lenA_nil)) (sa_cons (sx_var 0) (sa_cons (sx_var 1) sa_nil)))))))
theorem sc_Trier___init__ : FnScope ["self", "web"] ["self", "web"] (defScope s_Trier___init__) := ⟨rfl, rfl, rfl, by decide +kernel, rfl, by decide +kernel, by decide +kernel⟩
theorem ok_Trier___init__ {P : Program} {w : World} {K : PySem.W.Frag} {mg : Str → Option Value} {base : Heap} {fd : FuncData} (F : FunD K "__init__" "Trier.__init__" (defArgs s_Trier___init__) (defBody s_Trier___init__) (defScope s_Trier___init__) [] [] (He.ma K (He.ga K "Trier") "__init__") fd) (hm : MkF K mg "Trier") (OB : obAll OS K = true) :
    MakeM P w K mg base 1 "Trier" 1 M_Trier___init__ :=
  makeM F sc_Trier___init__ hm (fun _ _ _ _ _ _ us hl => match us, hl with | [_, _], _ => rfl) fun cdv A outer s H E hr =>
  (ss_cons (ss_fldS 0 OB (sx_var 1))
  (ss_cons (ss_fldS 0 OB sx_int)
  (ss_one (ss_fldS 0 OB sx_non))))
theorem sc_Trier_go : FnScope ["self", "numbers", "last", "number"] ["self", "numbers"] (defScope s_Trier_go) := ⟨rfl, rfl, rfl, by decide +kernel, rfl, by decide +kernel, by decide +kernel⟩
theorem ok_Trier_go {P : Program} {w : World} {K : PySem.W.Frag} {mg : Str → Option Value} {base : Heap} {MR : FM} {kk : Nat} {fd : FuncData} (F : FunD K "go" "Trier.go" (defArgs s_Trier_go) (defBody s_Trier_go) (defScope s_Trier_go) [] [] (He.ma K (He.ga K "Trier") "go") fd) (hm : MethF K "Trier" "go") (OB : obAll OS K = true) (h_len : mg "len" = none) (h_range : mg "range" = none) (C_Trier_go : CalleeM P w K mg base kk "Trier" "go" 1 MR) (C_sums_unlike : Callee P w K mg base kk "sums_unlike" 2 M_sums_unlike) :
    CalleeM P w K mg base (kk + 1) "Trier" "go" 1 (mkF 2 4 (c_Trier_go MR)) :=
  calleeM F sc_Trier_go hm (fun _ _ _ _ _ _ us hl => match us, hl with | [_, _], _ => rfl) fun cdv A outer s H E hr =>
  (ss_cons (ss_set 2 sc_Trier_go.nd (sx_callB cr_lenA (len_ok _) rfl h_len boot_len (sa_cons (sx_item (u65 hr) (sx_fldO OB (sx_var 0)) sx_int) sa_nil)))
  (ss_one (ss_if (st_cmp op_lt (ltG_ok _ _) (sx_callB cr_lenA (len_ok _) rfl h_len boot_len (sa_cons (sx_var 1) sa_nil)) (sx_var 2))
  (ss_one (ss_for rfl (si_rng2 rfl h_range sx_int (sx_bin op_addA (add_ok _) (sx_var 2) sx_int)) (sg_name 3 sc_Trier_go.nd)
  (ss_one (ss_if (st_cmp (op_notInA (u65 hr)) (notIn_ok _) (sx_var 3) (sx_var 1))
  (ss_one (ss_expr (sx_meth 0 C_Trier_go hr (lenA_cons lenA_nil) (sa_cons (sx_bin op_addA (add_ok _) (sx_var 1) (sx_tup (sa_cons (sx_var 3) sa_nil))) sa_nil))))
  ss_nil))))
  (ss_one (ss_if (st_val (sx_callC C_sums_unlike hr rfl (lenA_cons (lenA_cons lenA_nil)) (sa_cons (sx_fldO OB (sx_var 0)) (sa_cons (sx_var 1) sa_nil))))
  (ss_cons (ss_fldA 0 OB sx_int)
  (ss_one (ss_if (st_cmp op_isN (isN_ok _) (sx_fldO OB (sx_var 0)) sx_non)
  (ss_one (ss_fldS 0 OB (sx_var 1)))
  ss_nil)))
  ss_nil)))))
theorem rec_Trier_go {P : Program} {w : World} {K : PySem.W.Frag} {mg : Str → Option Value} {base : Heap} {fd_Trier_go : FuncData} (F_Trier_go : FunD K "go" "Trier.go" (defArgs s_Trier_go) (defBody s_Trier_go) (defScope s_Trier_go) [] [] (He.ma K (He.ga K "Trier") "go") fd_Trier_go) (hm_Trier_go : MethF K "Trier" "go") (OB : obAll OS K = true) (h_len : mg "len" = none) (h_range : mg "range" = none) (C_sums_unlike : Callee P w K mg base 2 "sums_unlike" 2 M_sums_unlike) :
    ∀ k : Nat, CalleeM P w K mg base (3 + 1 * k) "Trier" "go" 1 (M_Trier_go_R k)
  | 0 => CalleeM.up (k := 0 + 1) (calleeM F_Trier_go sc_Trier_go hm_Trier_go (fun _ _ _ _ _ _ us hl => match us, hl with | [_, _], _ => rfl) fun cdv A outer s H E hr => sss_never) (by omega)
  | k + 1 => by
    have C_Trier_go := rec_Trier_go (P := P) (w := w) (base := base) F_Trier_go hm_Trier_go OB h_len h_range C_sums_unlike k
    exact CalleeM.up (ok_Trier_go (P := P) (w := w) (base := base) (MR := M_Trier_go_R k) (kk := 3 + 1 * k + 0) F_Trier_go hm_Trier_go OB h_len h_range (C_Trier_go.up (j := 3 + 1 * k + 0) (by omega)) (C_sums_unlike.up (j := 3 + 1 * k + 0) (by omega))) (by omega)
theorem sc_tried : FnScope ["web", "trier"] ["web"] (defScope s_tried) := ⟨rfl, rfl, rfl, by decide +kernel, rfl, by decide +kernel, by decide +kernel⟩
theorem ok_tried {P : Program} {w : World} {K : PySem.W.Frag} {mg : Str → Option Value} {base : Heap} {f : Addr} {fd : FuncData} (F : FunD K "tried" "tried" (defArgs s_tried) (defBody s_tried) (defScope s_tried) [] [] f fd) (hm : mg "tried" = some (.ref f)) (h_len : mg "len" = none) (i_MOST_TRIED : ∃ t, mg "MOST_TRIED" = some (.int (6) t)) (EX : ExS K mg XS) (OX : oxAll RS K = true) (C_Trier___init__ : MakeM P w K mg base 12 "Trier" 1 M_Trier___init__) (C_Trier_go : CalleeM P w K mg base 13 "Trier" "go" 1 M_Trier_go) (RA_TooGreat : RaiseA P w K mg base 12 "TooGreat" ["many", "most"]) :
    Callee P w K mg base 14 "tried" 1 M_tried :=
  calleeOf F sc_tried hm (fun _ _ _ _ _ _ us hl => match us, hl with | [_], _ => rfl) fun cdv A outer s H E hr =>
  (ss_cons (ss_if (st_cmp op_gt (ltG_ok _ _) (sx_callB cr_lenA (len_ok _) rfl h_len boot_len (sa_cons (sx_item (u65 hr) (sx_var 0) sx_int) sa_nil)) (sx_gint rfl i_MOST_TRIED))
  (ss_one (ss_raiseA RA_TooGreat rfl hr rfl (lenA_cons (lenA_cons lenA_nil)) (by decide) (sa_cons (sx_callB cr_lenA (len_ok _) rfl h_len boot_len (sa_cons (sx_item (u65 hr) (sx_var 0) sx_int) sa_nil)) (sa_cons (sx_gint rfl i_MOST_TRIED) sa_nil))))
  ss_nil)
  (ss_cons (ss_set 1 sc_tried.nd (sx_make C_Trier___init__ hr rfl (lenA_cons lenA_nil) (sa_cons (sx_var 0) sa_nil)))
  (ss_cons (ss_expr (sx_meth 1 C_Trier_go hr (lenA_cons lenA_nil) (sa_cons (sx_tup sa_nil) sa_nil)))
  (ss_one (ss_ret (sx_var 1))))))
theorem sc_unlike_count : FnScope ["web"] ["web"] (defScope s_unlike_count) := ⟨rfl, rfl, rfl, by decide +kernel, rfl, by decide +kernel, by decide +kernel⟩
theorem ok_unlike_count {P : Program} {w : World} {K : PySem.W.Frag} {mg : Str → Option Value} {base : Heap} {f : Addr} {fd : FuncData} (F : FunD K "unlike_count" "unlike_count" (defArgs s_unlike_count) (defBody s_unlike_count) (defScope s_unlike_count) [] [] f fd) (hm : mg "unlike_count" = some (.ref f)) (OB : obAll OS K = true) (C_tried : Callee P w K mg base 14 "tried" 1 M_tried) :
    Callee P w K mg base 15 "unlike_count" 1 M_unlike_count :=
  calleeOf F sc_unlike_count hm (fun _ _ _ _ _ _ us hl => match us, hl with | [_], _ => rfl) fun cdv A outer s H E hr =>
  (ss_one (ss_ret (sx_fldO OB (sx_callC C_tried hr rfl (lenA_cons lenA_nil) (sa_cons (sx_var 0) sa_nil)))))
theorem sc_check_place : FnScope ["web", "place"] ["web", "place"] (defScope s_check_place) := ⟨rfl, rfl, rfl, by decide +kernel, rfl, by decide +kernel, by decide +kernel⟩
theorem ok_check_place {P : Program} {w : World} {K : PySem.W.Frag} {mg : Str → Option Value} {base : Heap} {f : Addr} {fd : FuncData} (F : FunD K "check_place" "check_place" (defArgs s_check_place) (defBody s_check_place) (defScope s_check_place) [] [] f fd) (hm : mg "check_place" = some (.ref f)) (EX : ExS K mg XS) (x_NoPlace : (He.Fa.exc "NoPlace").ok K = true) (C_is_whole : Callee P w K mg base 1 "is_whole" 1 M_is_whole) :
    Callee P w K mg base 2 "check_place" 2 M_check_place :=
  calleeOf F sc_check_place hm (fun _ _ _ _ _ _ us hl => match us, hl with | [_, _], _ => rfl) fun cdv A outer s H E hr =>
  (ss_one (ss_if (st_w (sw_or (st_not (st_val (sx_callC C_is_whole hr rfl (lenA_cons lenA_nil) (sa_cons (sx_var 1) sa_nil)))) (sw_or (st_cmp op_lt (ltG_ok _ _) (sx_var 1) sx_int) (sw_or1 (st_cmp op_ge (ltG_ok _ _) (sx_var 1) (sx_item (u65 hr) (sx_var 0) sx_int))))))
  (ss_one (ss_raise0 rfl rfl (EX.all "NoPlace" (by decide)).glo x_NoPlace))
  ss_nil))
theorem sc_ties_at : FnScope ["web", "place", "number", "tie"] ["web", "place"] (defScope s_ties_at) := ⟨rfl, rfl, rfl, by decide +kernel, rfl, by decide +kernel, by decide +kernel⟩
theorem ok_ties_at {P : Program} {w : World} {K : PySem.W.Frag} {mg : Str → Option Value} {base : Heap} {f : Addr} {fd : FuncData} (F : FunD K "ties_at" "ties_at" (defArgs s_ties_at) (defBody s_ties_at) (defScope s_ties_at) [] [] f fd) (hm : mg "ties_at" = some (.ref f)) (h_enumerate : mg "enumerate" = none) (C_check_place : Callee P w K mg base 2 "check_place" 2 M_check_place) :
    Callee P w K mg base 3 "ties_at" 2 M_ties_at :=
  calleeOf F sc_ties_at hm (fun _ _ _ _ _ _ us hl => match us, hl with | [_, _], _ => rfl) fun cdv A outer s H E hr =>
  (ss_cons (ss_expr (sx_callC C_check_place hr rfl (lenA_cons (lenA_cons lenA_nil)) (sa_cons (sx_var 0) (sa_cons (sx_var 1) sa_nil))))
  (ss_one (ss_ret (sx_comp rfl sc_ties_at.nd (si_enum rfl h_enumerate (sx_item (u65 hr) (sx_var 0) sx_int)) (own := [("number", 2), ("tie", 3)]) (blkB_ok (by kernel_rfl)) (by decide) (fun s H C cl fp => (sg_tup rfl (sgs_cons (sg_name 2 sc_ties_at.nd) (sgs_cons (sg_name 3 sc_ties_at.nd) sgs_nil)))) (fun s H C cl fp => (spt_one (st_cmp (op_inA (u65 hr)) (in_ok _) (sx_var 1) (sx_var 3)))) (fun s H C cl fp => (sx_var 2))))))
theorem sc_tie_counts : FnScope ["web", "place"] ["web"] (defScope s_tie_counts) := ⟨rfl, rfl, rfl, by decide +kernel, rfl, by decide +kernel, by decide +kernel⟩
theorem ok_tie_counts {P : Program} {w : World} {K : PySem.W.Frag} {mg : Str → Option Value} {base : Heap} {f : Addr} {fd : FuncData} (F : FunD K "tie_counts" "tie_counts" (defArgs s_tie_counts) (defBody s_tie_counts) (defScope s_tie_counts) [] [] f fd) (hm : mg "tie_counts" = some (.ref f)) (h_range : mg "range" = none) (h_len : mg "len" = none) (h_tuple : mg "tuple" = none) (C_ties_at : Callee P w K mg base 3 "ties_at" 2 M_ties_at) :
    Callee P w K mg base 4 "tie_counts" 1 M_tie_counts :=
  calleeOf F sc_tie_counts hm (fun _ _ _ _ _ _ us hl => match us, hl with | [_], _ => rfl) fun cdv A outer s H E hr =>
  (ss_one (ss_ret (sx_callTy cr_tupK (tuple_ok _) rfl h_tuple boot_tuple (sa_cons (sx_comp rfl sc_tie_counts.nd (si_rng1 rfl h_range (sx_item (u65 hr) (sx_var 0) sx_int)) (own := [("place", 1)]) (blkB_ok (by kernel_rfl)) (by decide) (fun s H C cl fp => (sg_name 1 sc_tie_counts.nd)) (fun s H C cl fp => spt_nil) (fun s H C cl fp => (sx_callB cr_lenA (len_ok _) rfl h_len boot_len (sa_cons (sx_callC C_ties_at hr rfl (lenA_cons (lenA_cons lenA_nil)) (sa_cons (sx_var 0) (sa_cons (sx_var 1) sa_nil))) sa_nil)))) sa_nil))))
theorem sc_unlike_bar_holds : FnScope ["web", "thing", "counts", "one", "place"] ["web", "thing"] (defScope s_unlike_bar_holds) := ⟨rfl, rfl, rfl, by decide +kernel, rfl, by decide +kernel, by decide +kernel⟩
theorem ok_unlike_bar_holds {P : Program} {w : World} {K : PySem.W.Frag} {mg : Str → Option Value} {base : Heap} {f : Addr} {fd : FuncData} (F : FunD K "unlike_bar_holds" "unlike_bar_holds" (defArgs s_unlike_bar_holds) (defBody s_unlike_bar_holds) (defScope s_unlike_bar_holds) [] [] f fd) (hm : mg "unlike_bar_holds" = some (.ref f)) (h_isinstance : mg "isinstance" = none) (h_tuple : mg "tuple" = none) (h_len : mg "len" = none) (h_str : mg "str" = none) (h_all : mg "all" = none) (C_tie_counts : Callee P w K mg base 4 "tie_counts" 1 M_tie_counts) (C_is_whole : Callee P w K mg base 4 "is_whole" 1 M_is_whole) :
    Callee P w K mg base 5 "unlike_bar_holds" 2 M_unlike_bar_holds :=
  calleeOf F sc_unlike_bar_holds hm (fun _ _ _ _ _ _ us hl => match us, hl with | [_, _], _ => rfl) fun cdv A outer s H E hr =>
  (ss_cons (ss_set 2 sc_unlike_bar_holds.nd (sx_callC C_tie_counts hr rfl (lenA_cons lenA_nil) (sa_cons (sx_var 0) sa_nil)))
  (ss_cons (ss_if (st_w (sw_or (st_not (st_val (sx_isi rfl h_isinstance rfl h_tuple boot_tuple (sx_var 1)))) (sw_or (st_cmp (op_notInA (u65 hr)) (notIn_ok _) (sx_callB cr_lenA (len_ok _) rfl h_len boot_len (sa_cons (sx_var 1) sa_nil)) (sx_tup (sa_cons sx_int (sa_cons sx_int sa_nil)))) (sw_or1 (st_not (st_val (sx_isi rfl h_isinstance rfl h_str boot_str (sx_item (u65 hr) (sx_var 1) sx_int))))))))
  (ss_one (ss_ret sx_bl))
  ss_nil)
  (ss_cons (ss_if (st_not (st_val (sx_callB (cr_all rfl) (all_ok _) rfl h_all boot_all (sa_cons (sx_comp rfl sc_unlike_bar_holds.nd (si_seq (sx_slice (sx_var 1) (so_some sx_int) so_none)) (own := [("one", 3)]) (blkB_ok (by kernel_rfl)) (by decide) (fun s H C cl fp => (sg_name 3 sc_unlike_bar_holds.nd)) (fun s H C cl fp => spt_nil) (fun s H C cl fp => (sx_callC C_is_whole hr rfl (lenA_cons lenA_nil) (sa_cons (sx_var 3) sa_nil)))) sa_nil))))
  (ss_one (ss_ret sx_bl))
  ss_nil)
  (ss_cons (ss_if (st_w (sw_and (st_cmp (op_eqD (u64 hr)) (eq_ok _) (sx_item (u65 hr) (sx_var 1) sx_int) sx_str) (sw_and (st_cmp (op_eqD (u64 hr)) (eq_ok _) (sx_callB cr_lenA (len_ok _) rfl h_len boot_len (sa_cons (sx_var 1) sa_nil)) sx_int) (sw_and1 (st_chain op_le (ltG_ok _ _) op_lt (ltG_ok _ _) sx_int (sx_item (u65 hr) (sx_var 1) sx_int) (sx_callB cr_lenA (len_ok _) rfl h_len boot_len (sa_cons (sx_item (u65 hr) (sx_var 0) sx_int) sa_nil)))))))
  (ss_one (ss_ret (sx_callB (cr_all rfl) (all_ok _) rfl h_all boot_all (sa_cons (sx_comp rfl sc_unlike_bar_holds.nd (si_seq (sx_item (u65 hr) (sx_item (u65 hr) (sx_var 0) sx_int) (sx_item (u65 hr) (sx_var 1) sx_int))) (own := [("place", 4)]) (blkB_ok (by kernel_rfl)) (by decide) (fun s H C cl fp => (sg_name 4 sc_unlike_bar_holds.nd)) (fun s H C cl fp => spt_nil) (fun s H C cl fp => (sx_cmp (op_eqD (u64 hr)) (eq_ok _) (sx_item (u65 hr) (sx_var 2) (sx_var 4)) sx_int))) sa_nil))))
  ss_nil)
  (ss_cons (ss_if (st_w (sw_and (st_cmp (op_eqD (u64 hr)) (eq_ok _) (sx_item (u65 hr) (sx_var 1) sx_int) sx_str) (sw_and (st_cmp (op_eqD (u64 hr)) (eq_ok _) (sx_callB cr_lenA (len_ok _) rfl h_len boot_len (sa_cons (sx_var 1) sa_nil)) sx_int) (sw_and1 (st_chain3 op_le (ltG_ok _ _) op_lt (ltG_ok _ _) op_lt (ltG_ok _ _) sx_int (sx_item (u65 hr) (sx_var 1) sx_int) (sx_item (u65 hr) (sx_var 1) sx_int) (sx_item (u65 hr) (sx_var 0) sx_int))))))
  (ss_one (ss_ret (sx_and (sx_cmp (op_eqD (u64 hr)) (eq_ok _) (sx_item (u65 hr) (sx_var 2) (sx_item (u65 hr) (sx_var 1) sx_int)) sx_int) (sx_one (sx_cmp (op_eqD (u64 hr)) (eq_ok _) (sx_item (u65 hr) (sx_var 2) (sx_item (u65 hr) (sx_var 1) sx_int)) sx_int)))))
  ss_nil)
  (ss_one (ss_ret sx_bl)))))))
theorem sc_unlike_bar : FnScope ["web", "k", "bare", "place", "count"] ["web"] (defScope s_unlike_bar) := ⟨rfl, rfl, rfl, by decide +kernel, rfl, by decide +kernel, by decide +kernel⟩
theorem ok_unlike_bar {P : Program} {w : World} {K : PySem.W.Frag} {mg : Str → Option Value} {base : Heap} {f : Addr} {fd : FuncData} (F : FunD K "unlike_bar" "unlike_bar" (defArgs s_unlike_bar) (defBody s_unlike_bar) (defScope s_unlike_bar) [] [] f fd) (hm : mg "unlike_bar" = some (.ref f)) (h_range : mg "range" = none) (h_len : mg "len" = none) (h_enumerate : mg "enumerate" = none) (C_unlike_bar_holds : Callee P w K mg base 5 "unlike_bar_holds" 2 M_unlike_bar_holds) (C_tie_counts : Callee P w K mg base 5 "tie_counts" 1 M_tie_counts) :
    Callee P w K mg base 6 "unlike_bar" 1 M_unlike_bar :=
  calleeOf F sc_unlike_bar hm (fun _ _ _ _ _ _ us hl => match us, hl with | [_], _ => rfl) fun cdv A outer s H E hr =>
  (ss_cons (ss_for rfl (si_rng1 rfl h_range (sx_callB cr_lenA (len_ok _) rfl h_len boot_len (sa_cons (sx_item (u65 hr) (sx_var 0) sx_int) sa_nil))) (sg_name 1 sc_unlike_bar.nd)
  (ss_one (ss_if (st_val (sx_callC C_unlike_bar_holds hr rfl (lenA_cons (lenA_cons lenA_nil)) (sa_cons (sx_var 0) (sa_cons (sx_tup (sa_cons sx_str (sa_cons (sx_var 1) sa_nil))) sa_nil))))
  (ss_one (ss_ret (sx_tup (sa_cons sx_str (sa_cons (sx_var 1) sa_nil)))))
  ss_nil)))
  (ss_cons (ss_setComp 2 rfl sc_unlike_bar.nd (si_enum rfl h_enumerate (sx_callC C_tie_counts hr rfl (lenA_cons lenA_nil) (sa_cons (sx_var 0) sa_nil))) (own := [("place", 3), ("count", 4)]) (blkB_ok (by kernel_rfl)) (by decide) (fun s H C cl fp => (sg_tup rfl (sgs_cons (sg_name 3 sc_unlike_bar.nd) (sgs_cons (sg_name 4 sc_unlike_bar.nd) sgs_nil)))) (fun s H C cl fp => (spt_one (st_cmp (op_eqD (u64 hr)) (eq_ok _) (sx_var 4) sx_int))) (fun s H C cl fp => (sx_var 3)))
  (ss_cons (ss_if (st_cmp op_gt (ltG_ok _ _) (sx_callB cr_lenA (len_ok _) rfl h_len boot_len (sa_cons (sx_var 2) sa_nil)) sx_int)
  (ss_one (ss_ret (sx_tup (sa_cons sx_str (sa_cons (sx_item (u65 hr) (sx_var 2) sx_int) (sa_cons (sx_item (u65 hr) (sx_var 2) sx_int) sa_nil))))))
  ss_nil)
  (ss_one (ss_ret sx_non)))))
theorem sc_hubs_of : FnScope ["web", "place", "count"] ["web"] (defScope s_hubs_of) := ⟨rfl, rfl, rfl, by decide +kernel, rfl, by decide +kernel, by decide +kernel⟩
theorem ok_hubs_of {P : Program} {w : World} {K : PySem.W.Frag} {mg : Str → Option Value} {base : Heap} {f : Addr} {fd : FuncData} (F : FunD K "hubs_of" "hubs_of" (defArgs s_hubs_of) (defBody s_hubs_of) (defScope s_hubs_of) [] [] f fd) (hm : mg "hubs_of" = some (.ref f)) (h_enumerate : mg "enumerate" = none) (C_tie_counts : Callee P w K mg base 4 "tie_counts" 1 M_tie_counts) :
    Callee P w K mg base 5 "hubs_of" 1 M_hubs_of :=
  calleeOf F sc_hubs_of hm (fun _ _ _ _ _ _ us hl => match us, hl with | [_], _ => rfl) fun cdv A outer s H E hr =>
  (ss_one (ss_ret (sx_comp rfl sc_hubs_of.nd (si_enum rfl h_enumerate (sx_callC C_tie_counts hr rfl (lenA_cons lenA_nil) (sa_cons (sx_var 0) sa_nil))) (own := [("place", 1), ("count", 2)]) (blkB_ok (by kernel_rfl)) (by decide) (fun s H C cl fp => (sg_tup rfl (sgs_cons (sg_name 1 sc_hubs_of.nd) (sgs_cons (sg_name 2 sc_hubs_of.nd) sgs_nil)))) (fun s H C cl fp => (spt_one (st_cmp (op_eqD (u64 hr)) (eq_ok _) (sx_var 2) (sx_bin op_sub (sub_ok _) (sx_item (u65 hr) (sx_var 0) sx_int) sx_int)))) (fun s H C cl fp => (sx_var 1)))))
theorem sc_need_hub : FnScope ["web", "hubs"] ["web"] (defScope s_need_hub) := ⟨rfl, rfl, rfl, by decide +kernel, rfl, by decide +kernel, by decide +kernel⟩
theorem ok_need_hub {P : Program} {w : World} {K : PySem.W.Frag} {mg : Str → Option Value} {base : Heap} {f : Addr} {fd : FuncData} (F : FunD K "need_hub" "need_hub" (defArgs s_need_hub) (defBody s_need_hub) (defScope s_need_hub) [] [] f fd) (hm : mg "need_hub" = some (.ref f)) (EX : ExS K mg XS) (x_NoKind : (He.Fa.exc "NoKind").ok K = true) (C_hubs_of : Callee P w K mg base 5 "hubs_of" 1 M_hubs_of) :
    Callee P w K mg base 6 "need_hub" 1 M_need_hub :=
  calleeOf F sc_need_hub hm (fun _ _ _ _ _ _ us hl => match us, hl with | [_], _ => rfl) fun cdv A outer s H E hr =>
  (ss_cons (ss_set 1 sc_need_hub.nd (sx_callC C_hubs_of hr rfl (lenA_cons lenA_nil) (sa_cons (sx_var 0) sa_nil)))
  (ss_cons (ss_if (st_w (sw_or (st_cmp op_lt (ltG_ok _ _) (sx_item (u65 hr) (sx_var 0) sx_int) sx_int) (sw_or1 (st_cmp (op_eqD (u64 hr)) (eq_ok _) (sx_var 1) (sx_lst sa_nil)))))
  (ss_one (ss_raise0 rfl rfl (EX.all "NoKind" (by decide)).glo x_NoKind))
  ss_nil)
  (ss_one (ss_ret (sx_item (u65 hr) (sx_var 1) sx_int)))))
theorem sc_by_hub : FnScope ["web", "hub", "numbers", "found", "left", "there", "rows", "k", "tie", "worth"] ["web", "hub", "numbers"] (defScope s_by_hub) := ⟨rfl, rfl, rfl, by decide +kernel, rfl, by decide +kernel, by decide +kernel⟩
theorem ok_by_hub {P : Program} {w : World} {K : PySem.W.Frag} {mg : Str → Option Value} {base : Heap} {f : Addr} {fd : FuncData} (F : FunD K "by_hub" "by_hub" (defArgs s_by_hub) (defBody s_by_hub) (defScope s_by_hub) [] [] f fd) (hm : mg "by_hub" = some (.ref f)) (h_list : mg "list" = none) (h_enumerate : mg "enumerate" = none) (h_range : mg "range" = none) (h_len : mg "len" = none) (h_sum : mg "sum" = none) (h_sorted : mg "sorted" = none) (h_tuple : mg "tuple" = none) (C_sums_at : Callee P w K mg base 1 "sums_at" 2 M_sums_at) :
    Callee P w K mg base 2 "by_hub" 3 M_by_hub :=
  calleeOf F sc_by_hub hm (fun _ _ _ _ _ _ us hl => match us, hl with | [_, _, _], _ => rfl) fun cdv A outer s H E hr =>
  (ss_cons (ss_set 3 sc_by_hub.nd sx_newK)
  (ss_cons (ss_set 4 sc_by_hub.nd (sx_callTyG (cr_listA rfl) (listA_ok _) rfl h_list boot_list (sa_cons (sx_var 2) sa_nil)))
  (ss_cons (ss_for rfl (si_enum rfl h_enumerate (sx_item (u65 hr) (sx_var 0) sx_int)) (sg_tup rfl (sgs_cons (sg_name 7 sc_by_hub.nd) (sgs_cons (sg_name 8 sc_by_hub.nd) sgs_nil)))
  (ss_one (ss_if (st_cmp (op_notInA (u65 hr)) (notIn_ok _) (sx_var 1) (sx_var 8))
  (ss_one (ss_unp (sx_mutL 4 PySem.F.plainAttrs_list PySem.F.slot_list_pop rfl mt_popA (pop_ok _) (sa_cons sx_int sa_nil)) (sg_put 3 (set_any (u65 hr)) (putA_ok _) (sx_var 7))))
  ss_nil)))
  (ss_cons (ss_set 5 sc_by_hub.nd (sx_callC C_sums_at hr rfl (lenA_cons (lenA_cons lenA_nil)) (sa_cons (sx_var 0) (sa_cons (sx_comp rfl sc_by_hub.nd (si_rng1 rfl h_range (sx_callB cr_lenA (len_ok _) rfl h_len boot_len (sa_cons (sx_item (u65 hr) (sx_var 0) sx_int) sa_nil))) (own := [("k", 7)]) (blkB_ok (by kernel_rfl)) (by decide) (fun s H C cl fp => (sg_name 7 sc_by_hub.nd)) (fun s H C cl fp => spt_nil) (fun s H C cl fp => (sx_get2 (Nat.lt_of_le_of_lt (Nat.add_le_add_left (by decide) _) (u65 hr)) (sx_var 3) (sx_var 7) sx_int ⟨by rfl, by rfl, by rfl, by rfl⟩))) sa_nil))))
  (ss_cons (ss_setComp 6 rfl sc_by_hub.nd (si_enum rfl h_enumerate (sx_item (u65 hr) (sx_var 0) sx_int)) (own := [("k", 7), ("tie", 8)]) (blkB_ok (by kernel_rfl)) (by decide) (fun s H C cl fp => (sg_tup rfl (sgs_cons (sg_name 7 sc_by_hub.nd) (sgs_cons (sg_name 8 sc_by_hub.nd) sgs_nil)))) (fun s H C cl fp => (spt_one (st_cmp (op_inA (u65 hr)) (in_ok _) (sx_var 1) (sx_var 8)))) (fun s H C cl fp => (sx_tup (sa_cons (sx_item (u65 hr) (sx_var 5) (sx_bin op_sub (sub_ok _) (sx_callB (cr_sumA rfl) (sum_ok _) rfl h_sum boot_sum (sa_cons (sx_var 8) sa_nil)) (sx_var 1))) (sa_cons (sx_var 7) sa_nil)))))
  (ss_cons (ss_for rfl (si_seq (sx_callB (cr_sortD hr) (sorted_ok _) rfl h_sorted boot_sorted (sa_cons (sx_var 6) sa_nil))) (sg_tup rfl (sgs_cons (sg_name 9 sc_by_hub.nd) (sgs_cons (sg_name 7 sc_by_hub.nd) sgs_nil)))
  (ss_one (ss_unp (sx_mutL 4 PySem.F.plainAttrs_list PySem.F.slot_list_pop rfl mt_popA (pop_ok _) (sa_cons sx_int sa_nil)) (sg_put 3 (set_any (u65 hr)) (putA_ok _) (sx_var 7)))))
  (ss_one (ss_ret (sx_callTy cr_tupK (tuple_ok _) rfl h_tuple boot_tuple (sa_cons (sx_comp rfl sc_by_hub.nd (si_rng1 rfl h_range (sx_callB cr_lenA (len_ok _) rfl h_len boot_len (sa_cons (sx_item (u65 hr) (sx_var 0) sx_int) sa_nil))) (own := [("k", 7)]) (blkB_ok (by kernel_rfl)) (by decide) (fun s H C cl fp => (sg_name 7 sc_by_hub.nd)) (fun s H C cl fp => spt_nil) (fun s H C cl fp => (sx_item (u65 hr) (sx_var 3) (sx_var 7)))) sa_nil))))))))))
theorem sc_numbers_in : FnScope ["thing", "size", "one"] ["thing", "size"] (defScope s_numbers_in) := ⟨rfl, rfl, rfl, by decide +kernel, rfl, by decide +kernel, by decide +kernel⟩
theorem ok_numbers_in {P : Program} {w : World} {K : PySem.W.Frag} {mg : Str → Option Value} {base : Heap} {f : Addr} {fd : FuncData} (F : FunD K "numbers_in" "numbers_in" (defArgs s_numbers_in) (defBody s_numbers_in) (defScope s_numbers_in) [] [] f fd) (hm : mg "numbers_in" = some (.ref f)) (h_isinstance : mg "isinstance" = none) (h_list : mg "list" = none) (h_tuple : mg "tuple" = none) (h_len : mg "len" = none) (EX : ExS K mg XS) (x_NoNumber : (He.Fa.exc "NoNumber").ok K = true) (h_all : mg "all" = none) (h_set : mg "set" = none) (h_sorted : mg "sorted" = none) (C_is_whole : Callee P w K mg base 1 "is_whole" 1 M_is_whole) :
    Callee P w K mg base 2 "numbers_in" 2 M_numbers_in :=
  calleeOf F sc_numbers_in hm (fun _ _ _ _ _ _ us hl => match us, hl with | [_, _], _ => rfl) fun cdv A outer s H E hr =>
  (ss_cons (ss_if (st_w (sw_or (st_not (st_val (sx_isiLT rfl h_isinstance rfl h_list rfl h_tuple (sx_var 0)))) (sw_or1 (st_cmp (op_neD (u64 hr)) (ne_ok _) (sx_callB cr_lenA (len_ok _) rfl h_len boot_len (sa_cons (sx_var 0) sa_nil)) (sx_var 1)))))
  (ss_one (ss_raise0 rfl rfl (EX.all "NoNumber" (by decide)).glo x_NoNumber))
  ss_nil)
  (ss_cons (ss_if (st_w (sw_or (st_not (st_val (sx_callB (cr_all rfl) (all_ok _) rfl h_all boot_all (sa_cons (sx_comp rfl sc_numbers_in.nd (si_seq (sx_var 0)) (own := [("one", 2)]) (blkB_ok (by kernel_rfl)) (by decide) (fun s H C cl fp => (sg_name 2 sc_numbers_in.nd)) (fun s H C cl fp => spt_nil) (fun s H C cl fp => (sx_and (sx_callC C_is_whole hr rfl (lenA_cons lenA_nil) (sa_cons (sx_var 2) sa_nil)) (sx_one (sx_cmp op_gt (ltG_ok _ _) (sx_var 2) sx_int))))) sa_nil)))) (sw_or1 (st_cmp op_lt (ltG_ok _ _) (sx_lenSet rfl rfl h_len rfl h_set (sx_var 0)) (sx_var 1)))))
  (ss_one (ss_raise0 rfl rfl (EX.all "NoNumber" (by decide)).glo x_NoNumber))
  ss_nil)
  (ss_one (ss_ret (sx_callB (cr_sortD hr) (sorted_ok _) rfl h_sorted boot_sorted (sa_cons (sx_var 0) sa_nil))))))
theorem sc_unlike_by : FnScope ["web", "thing", "hub"] ["web", "thing"] (defScope s_unlike_by) := ⟨rfl, rfl, rfl, by decide +kernel, rfl, by decide +kernel, by decide +kernel⟩
theorem ok_unlike_by {P : Program} {w : World} {K : PySem.W.Frag} {mg : Str → Option Value} {base : Heap} {f : Addr} {fd : FuncData} (F : FunD K "unlike_by" "unlike_by" (defArgs s_unlike_by) (defBody s_unlike_by) (defScope s_unlike_by) [] [] f fd) (hm : mg "unlike_by" = some (.ref f)) (h_len : mg "len" = none) (C_need_hub : Callee P w K mg base 6 "need_hub" 1 M_need_hub) (C_by_hub : Callee P w K mg base 6 "by_hub" 3 M_by_hub) (C_numbers_in : Callee P w K mg base 6 "numbers_in" 2 M_numbers_in) :
    Callee P w K mg base 7 "unlike_by" 2 M_unlike_by :=
  calleeOf F sc_unlike_by hm (fun _ _ _ _ _ _ us hl => match us, hl with | [_, _], _ => rfl) fun cdv A outer s H E hr =>
  (ss_cons (ss_set 2 sc_unlike_by.nd (sx_callC C_need_hub hr rfl (lenA_cons lenA_nil) (sa_cons (sx_var 0) sa_nil)))
  (ss_one (ss_ret (sx_callC C_by_hub hr rfl (lenA_cons (lenA_cons (lenA_cons lenA_nil))) (sa_cons (sx_var 0) (sa_cons (sx_var 2) (sa_cons (sx_callC C_numbers_in hr rfl (lenA_cons (lenA_cons lenA_nil)) (sa_cons (sx_var 1) (sa_cons (sx_callB cr_lenA (len_ok _) rfl h_len boot_len (sa_cons (sx_item (u65 hr) (sx_var 0) sx_int) sa_nil)) sa_nil))) sa_nil)))))))
theorem sc__law_right : FnScope ["web", "last", "counts", "good", "row", "due", "found", "place", "tie", "one"] ["web"] (defScope s__law_right) := ⟨rfl, rfl, rfl, by decide +kernel, rfl, by decide +kernel, by decide +kernel⟩
theorem ok__law_right {P : Program} {w : World} {K : PySem.W.Frag} {mg : Str → Option Value} {base : Heap} {f : Addr} {fd : FuncData} (F : FunD K "_law_right" "_law_right" (defArgs s__law_right) (defBody s__law_right) (defScope s__law_right) [] [] f fd) (hm : mg "_law_right" = some (.ref f)) (h_len : mg "len" = none) (h_range : mg "range" = none) (h_isinstance : mg "isinstance" = none) (h_bool : mg "bool" = none) (h_min : mg "min" = none) (h_max : mg "max" = none) (h_tuple : mg "tuple" = none) (h_list : mg "list" = none) (C__law_orders : Callee P w K mg base 15 "_law_orders" 1 M__law_orders) (C__law_unlike : Callee P w K mg base 15 "_law_unlike" 2 M__law_unlike) (C_unlike_good : Callee P w K mg base 15 "unlike_good" 2 M_unlike_good) (C_unlike_count : Callee P w K mg base 15 "unlike_count" 1 M_unlike_count) (C_unlike_bar : Callee P w K mg base 15 "unlike_bar" 1 M_unlike_bar) (C_unlike_by : Callee P w K mg base 15 "unlike_by" 2 M_unlike_by) :
    Callee P w K mg base 16 "_law_right" 1 M__law_right :=
  calleeOf F sc__law_right hm (fun _ _ _ _ _ _ us hl => match us, hl with | [_], _ => rfl) fun cdv A outer s H E hr =>
  (ss_cons (ss_set 1 sc__law_right.nd (sx_callB cr_lenA (len_ok _) rfl h_len boot_len (sa_cons (sx_item (u65 hr) (sx_var 0) sx_int) sa_nil)))
  (ss_cons (ss_setComp 2 rfl sc__law_right.nd (si_rng1 rfl h_range (sx_item (u65 hr) (sx_var 0) sx_int)) (own := [("place", 7)]) (blkB_ok (by kernel_rfl)) (by decide) (fun s H C cl fp => (sg_name 7 sc__law_right.nd)) (fun s H C cl fp => spt_nil) (fun s H C cl fp => (sx_callB cr_lenA (len_ok _) rfl h_len boot_len (sa_cons (sx_comp rfl sc__law_right.nd (si_seq (sx_item (u65 hr) (sx_var 0) sx_int)) (own := [("tie", 8)]) (blkB_ok (by kernel_rfl)) (by decide) (fun s H C cl fp => (sg_name 8 sc__law_right.nd)) (fun s H C cl fp => (spt_one (st_cmp (op_inA (u65 hr)) (in_ok _) (sx_var 7) (sx_var 8)))) (fun s H C cl fp => (sx_var 8))) sa_nil))))
  (ss_cons (ss_set 3 sc__law_right.nd (sx_lst sa_nil))
  (ss_cons (ss_for rfl (si_seq (sx_callC C__law_orders hr rfl (lenA_cons lenA_nil) (sa_cons (sx_var 1) sa_nil))) (sg_name 4 sc__law_right.nd)
  (ss_cons (ss_set 5 sc__law_right.nd (sx_callC C__law_unlike hr rfl (lenA_cons (lenA_cons lenA_nil)) (sa_cons (sx_var 0) (sa_cons (sx_var 4) sa_nil))))
  (ss_cons (ss_set 6 sc__law_right.nd (sx_callC C_unlike_good hr rfl (lenA_cons (lenA_cons lenA_nil)) (sa_cons (sx_var 0) (sa_cons (sx_var 4) sa_nil))))
  (ss_cons (ss_if (st_w (sw_or (st_not (st_val (sx_isi rfl h_isinstance rfl h_bool boot_bool (sx_var 6)))) (sw_or1 (st_cmp (op_neD (u64 hr)) (ne_ok _) (sx_var 6) (sx_var 5)))))
  (ss_one (ss_ret sx_bl))
  ss_nil)
  (ss_one (ss_if (st_val (sx_var 5))
  (ss_cons (ss_expr (sx_mutL 3 PySem.F.plainAttrs_list PySem.F.slot_list_append rfl mt_append (append_ok _) (sa_cons (sx_var 4) sa_nil)))
  (ss_one (ss_if (st_w (sw_and (st_cmp (op_eqD (u64 hr)) (eq_ok _) (sx_callB (cr_minA rfl hr) (fold_ok _ min) rfl h_min boot_min (sa_cons (sx_var 2) sa_nil)) (sx_callB (cr_maxA rfl hr) (fold_ok _ max) rfl h_max boot_max (sa_cons (sx_var 2) sa_nil))) (sw_and1 (st_not (st_val (sx_callC C_unlike_good hr rfl (lenA_cons (lenA_cons lenA_nil)) (sa_cons (sx_var 0) (sa_cons (sx_callTy cr_tupK (tuple_ok _) rfl h_tuple boot_tuple (sa_cons (sx_comp rfl sc__law_right.nd (si_seq (sx_var 4)) (own := [("one", 9)]) (blkB_ok (by kernel_rfl)) (by decide) (fun s H C cl fp => (sg_name 9 sc__law_right.nd)) (fun s H C cl fp => spt_nil) (fun s H C cl fp => (sx_bin op_sub (sub_ok _) (sx_bin op_addA (add_ok _) (sx_var 1) sx_int) (sx_var 9)))) sa_nil)) sa_nil))))))))
  (ss_one (ss_ret sx_bl))
  ss_nil)))
  ss_nil))))))
  (ss_cons (ss_if (st_w (sw_or (st_cmp (op_neD (u64 hr)) (ne_ok _) (sx_callC C_unlike_count hr rfl (lenA_cons lenA_nil) (sa_cons (sx_var 0) sa_nil)) (sx_callB cr_lenA (len_ok _) rfl h_len boot_len (sa_cons (sx_var 3) sa_nil))) (sw_or1 (st_w (sw_and (st_cmp (op_neD (u64 hr)) (ne_ok _) (sx_var 3) (sx_lst sa_nil)) (sw_and1 (st_cmp op_notN (notN_ok _) (sx_callC C_unlike_bar hr rfl (lenA_cons lenA_nil) (sa_cons (sx_var 0) sa_nil)) sx_non)))))))
  (ss_one (ss_ret sx_bl))
  ss_nil)
  (ss_cons (ss_if (st_w (sw_and (st_cmp op_gt (ltG_ok _ _) (sx_item (u65 hr) (sx_var 0) sx_int) sx_int) (sw_and1 (st_cmp (op_inA (u65 hr)) (in_ok _) (sx_bin op_sub (sub_ok _) (sx_item (u65 hr) (sx_var 0) sx_int) sx_int) (sx_var 2)))))
  (ss_one (ss_ret (sx_cmp (op_inA (u65 hr)) (in_ok _) (sx_callC C_unlike_by hr rfl (lenA_cons (lenA_cons lenA_nil)) (sa_cons (sx_var 0) (sa_cons (sx_lstRg rfl rfl h_list (sr_2 rfl h_range sx_int (sx_bin op_addA (add_ok _) (sx_var 1) sx_int))) sa_nil))) (sx_var 3))))
  ss_nil)
  (ss_one (ss_ret sx_bl))))))))
theorem sc__law_cell_at : FnScope ["script", "k"] ["script", "k"] (defScope s__law_cell_at) := ⟨rfl, rfl, rfl, by decide +kernel, rfl, by decide +kernel, by decide +kernel⟩
theorem ok__law_cell_at {P : Program} {w : World} {K : PySem.W.Frag} {mg : Str → Option Value} {base : Heap} {f : Addr} {fd : FuncData} (F : FunD K "_law_cell_at" "_law_cell_at" (defArgs s__law_cell_at) (defBody s__law_cell_at) (defScope s__law_cell_at) [] [] f fd) (hm : mg "_law_cell_at" = some (.ref f)) (h_len : mg "len" = none) :
    Callee P w K mg base 1 "_law_cell_at" 2 M__law_cell_at :=
  calleeOf F sc__law_cell_at hm (fun _ _ _ _ _ _ us hl => match us, hl with | [_, _], _ => rfl) fun cdv A outer s H E hr =>
  (ss_cons (ss_if (st_cmp op_lt (ltG_ok _ _) (sx_var 1) (sx_callB cr_lenA (len_ok _) rfl h_len boot_len (sa_cons (sx_var 0) sa_nil)))
  (ss_one (ss_ret (sx_item (u65 hr) (sx_var 0) (sx_var 1))))
  ss_nil)
  (ss_one (ss_ret sx_int)))
theorem sc__law_pen_of : FnScope ["cell", "left"] ["cell"] (defScope s__law_pen_of) := ⟨rfl, rfl, rfl, by decide +kernel, rfl, by decide +kernel, by decide +kernel⟩
theorem ok__law_pen_of {P : Program} {w : World} {K : PySem.W.Frag} {mg : Str → Option Value} {base : Heap} {f : Addr} {fd : FuncData} (F : FunD K "_law_pen_of" "_law_pen_of" (defArgs s__law_pen_of) (defBody s__law_pen_of) (defScope s__law_pen_of) [] [] f fd) (hm : mg "_law_pen_of" = some (.ref f)) (h_max : mg "max" = none) (h_int : mg "int" = none) :
    Callee P w K mg base 1 "_law_pen_of" 1 M__law_pen_of :=
  calleeOf F sc__law_pen_of hm (fun _ _ _ _ _ _ us hl => match us, hl with | [_], _ => rfl) fun cdv A outer s H E hr =>
  (ss_cons (ss_set 1 sc__law_pen_of.nd (sx_callB (call_max2 rfl) (max2_ok _) rfl h_max boot_max (sa_cons (sx_var 0) (sa_cons (sx_bin op_sub (sub_ok _) sx_int (sx_var 0)) sa_nil))))
  (ss_one (ss_ret (sx_lst (sa_cons (sx_var 1) (sa_cons (sx_callTy call_int1 (int_ok _) rfl h_int boot_int (sa_cons (sx_cmp op_ge (ltG_ok _ _) (sx_var 1) (sx_bin op_pow (pow_ok _) sx_int sx_int)) sa_nil)) (sa_cons (sx_bin op_mod (mod_ok _) (sx_var 1) sx_int) sa_nil)))))))
theorem sc__law_next : FnScope ["seed"] ["seed"] (defScope s__law_next) := ⟨rfl, rfl, rfl, by decide +kernel, rfl, by decide +kernel, by decide +kernel⟩
theorem ok__law_next {P : Program} {w : World} {K : PySem.W.Frag} {mg : Str → Option Value} {base : Heap} {f : Addr} {fd : FuncData} (F : FunD K "_law_next" "_law_next" (defArgs s__law_next) (defBody s__law_next) (defScope s__law_next) [] [] f fd) (hm : mg "_law_next" = some (.ref f)) :
    Callee P w K mg base 1 "_law_next" 1 M__law_next :=
  calleeOf F sc__law_next hm (fun _ _ _ _ _ _ us hl => match us, hl with | [_], _ => rfl) fun cdv A outer s H E hr =>
  (ss_cons (ss_set 0 sc__law_next.nd (sx_bin op_mod (mod_ok _) (sx_bin op_addA (add_ok _) (sx_var 0) sx_int) sx_int))
  (ss_one (ss_ret (sx_bin op_mod (mod_ok _) (sx_bin op_addA (add_ok _) (sx_bin op_addA (add_ok _) (sx_bin op_mulA (mul_ok _) (sx_var 0) (sx_var 0)) (sx_bin op_mulA (mul_ok _) sx_int (sx_var 0))) sx_int) sx_int))))
theorem sc__law_draw : FnScope ["pen", "many", "found"] ["pen", "many"] (defScope s__law_draw) := ⟨rfl, rfl, rfl, by decide +kernel, rfl, by decide +kernel, by decide +kernel⟩
theorem ok__law_draw {P : Program} {w : World} {K : PySem.W.Frag} {mg : Str → Option Value} {base : Heap} {f : Addr} {fd : FuncData} (F : FunD K "_law_draw" "_law_draw" (defArgs s__law_draw) (defBody s__law_draw) (defScope s__law_draw) [] [] f fd) (hm : mg "_law_draw" = some (.ref f)) (C__law_next : Callee P w K mg base 1 "_law_next" 1 M__law_next) :
    Callee P w K mg base 2 "_law_draw" 2 M__law_draw :=
  calleeOf F sc__law_draw hm (fun _ _ _ _ _ _ us hl => match us, hl with | [_, _], _ => rfl) fun cdv A outer s H E hr =>
  (ss_cons (ss_if (st_cmp (op_eqD (u64 hr)) (eq_ok _) (sx_item (u65 hr) (sx_var 0) sx_int) sx_int)
  (ss_cons (ss_set 2 sc__law_draw.nd (sx_bin op_mod (mod_ok _) (sx_item (u65 hr) (sx_var 0) sx_int) (sx_var 1)))
  (ss_cons (ss_unp (sx_bin op_fdivW (div_ok _) (sx_item (u65 hr) (sx_var 0) sx_int) (sx_var 1)) (sg_put 0 (set_any (u65 hr)) (putA_ok _) sx_int))
  (ss_one (ss_ret (sx_var 2)))))
  ss_nil)
  (ss_cons (ss_unp (sx_callC C__law_next hr rfl (lenA_cons lenA_nil) (sa_cons (sx_bin op_addA (add_ok _) (sx_callC C__law_next hr rfl (lenA_cons lenA_nil) (sa_cons (sx_item (u65 hr) (sx_var 0) sx_int) sa_nil)) sx_int) sa_nil)) (sg_put 0 (set_any (u65 hr)) (putA_ok _) sx_int))
  (ss_one (ss_ret (sx_bin op_mod (mod_ok _) (sx_bin op_fdivW (div_ok _) (sx_item (u65 hr) (sx_var 0) sx_int) sx_int) (sx_var 1))))))
theorem sc__law_web_by : FnScope ["pen", "most", "many", "found", "turn", "place", "one", "other"] ["pen", "most"] (defScope s__law_web_by) := ⟨rfl, rfl, rfl, by decide +kernel, rfl, by decide +kernel, by decide +kernel⟩
theorem ok__law_web_by {P : Program} {w : World} {K : PySem.W.Frag} {mg : Str → Option Value} {base : Heap} {f : Addr} {fd : FuncData} (F : FunD K "_law_web_by" "_law_web_by" (defArgs s__law_web_by) (defBody s__law_web_by) (defScope s__law_web_by) [] [] f fd) (hm : mg "_law_web_by" = some (.ref f)) (h_range : mg "range" = none) (h_len : mg "len" = none) (h_min : mg "min" = none) (h_max : mg "max" = none) (h_list : mg "list" = none) (h_sorted : mg "sorted" = none) (h_tuple : mg "tuple" = none) (C__law_draw : Callee P w K mg base 2 "_law_draw" 2 M__law_draw) :
    Callee P w K mg base 3 "_law_web_by" 2 M__law_web_by :=
  calleeOf F sc__law_web_by hm (fun _ _ _ _ _ _ us hl => match us, hl with | [_, _], _ => rfl) fun cdv A outer s H E hr =>
  (ss_cons (ss_set 2 sc__law_web_by.nd (sx_bin op_addA (add_ok _) sx_int (sx_callC C__law_draw hr rfl (lenA_cons (lenA_cons lenA_nil)) (sa_cons (sx_var 0) (sa_cons (sx_var 1) sa_nil)))))
  (ss_cons (ss_set 3 sc__law_web_by.nd sx_newT)
  (ss_cons (ss_if (st_cmp op_gt (ltG_ok _ _) (sx_callC C__law_draw hr rfl (lenA_cons (lenA_cons lenA_nil)) (sa_cons (sx_var 0) (sa_cons sx_int sa_nil))) sx_int)
  (ss_one (ss_for rfl (si_rng2 rfl h_range sx_int (sx_var 2)) (sg_name 5 sc__law_web_by.nd)
  (ss_one (ss_if (st_cmp op_gt (ltG_ok _ _) (sx_callC C__law_draw hr rfl (lenA_cons (lenA_cons lenA_nil)) (sa_cons (sx_var 0) (sa_cons sx_int sa_nil))) sx_int)
  (ss_one (ss_unp sx_bl (sg_put 3 (set_any (u65 hr)) (putA_ok _) (sx_tup (sa_cons (sx_callC C__law_draw hr rfl (lenA_cons (lenA_cons lenA_nil)) (sa_cons (sx_var 0) (sa_cons (sx_var 5) sa_nil))) (sa_cons (sx_var 5) sa_nil))))))
  ss_nil))))
  ss_nil)
  (ss_cons (ss_for rfl (si_rng1 rfl h_range (sx_item (u65 hr) (sx_lst (sa_cons sx_int (sa_cons sx_int (sa_cons (sx_var 2) (sa_cons (sx_bin op_mulA (mul_ok _) sx_int (sx_var 2)) sa_nil))))) (sx_callC C__law_draw hr rfl (lenA_cons (lenA_cons lenA_nil)) (sa_cons (sx_var 0) (sa_cons sx_int sa_nil))))) (sg_name 4 sc__law_web_by.nd)
  (ss_cons (ss_set 6 sc__law_web_by.nd (sx_callC C__law_draw hr rfl (lenA_cons (lenA_cons lenA_nil)) (sa_cons (sx_var 0) (sa_cons (sx_var 2) sa_nil))))
  (ss_cons (ss_set 7 sc__law_web_by.nd (sx_callC C__law_draw hr rfl (lenA_cons (lenA_cons lenA_nil)) (sa_cons (sx_var 0) (sa_cons (sx_var 2) sa_nil))))
  (ss_one (ss_if (st_w (sw_and (st_cmp (op_neD (u64 hr)) (ne_ok _) (sx_var 6) (sx_var 7)) (sw_and1 (st_cmp op_lt (ltG_ok _ _) (sx_callB cr_lenA (len_ok _) rfl h_len boot_len (sa_cons (sx_var 3) sa_nil)) sx_int))))
  (ss_one (ss_unp sx_bl (sg_put 3 (set_any (u65 hr)) (putA_ok _) (sx_tup (sa_cons (sx_callB (call_min2 rfl) (min2_ok _) rfl h_min boot_min (sa_cons (sx_var 6) (sa_cons (sx_var 7) sa_nil))) (sa_cons (sx_callB (call_max2 rfl) (max2_ok _) rfl h_max boot_max (sa_cons (sx_var 6) (sa_cons (sx_var 7) sa_nil))) sa_nil))))))
  ss_nil)))))
  (ss_one (ss_ret (sx_tup (sa_cons (sx_var 2) (sa_cons (sx_callTy cr_tupK (tuple_ok _) rfl h_tuple boot_tuple (sa_cons (sx_callB (cr_sortD hr) (sorted_ok _) rfl h_sorted boot_sorted (sa_cons (sx_callTyG (cr_listA rfl) (listA_ok _) rfl h_list boot_list (sa_cons (sx_var 3) sa_nil)) sa_nil)) sa_nil)) sa_nil)))))))))
theorem sc_law : FnScope ["script", "cell", "pen", "web"] ["script"] (defScope s_law) := ⟨rfl, rfl, rfl, by decide +kernel, rfl, by decide +kernel, by decide +kernel⟩
theorem fn_law {P : Program} {w : World} {K : PySem.W.Frag} {mg : Str → Option Value} {base : Heap} {f : Addr} {fd : FuncData} (F : FunD K "law" "law" (defArgs s_law) (defBody s_law) (defScope s_law) [] [] f fd) (C__law_right : Callee P w K mg base 16 "_law_right" 1 M__law_right) (C__law_cell_at : Callee P w K mg base 16 "_law_cell_at" 2 M__law_cell_at) (C__law_pen_of : Callee P w K mg base 16 "_law_pen_of" 1 M__law_pen_of) (C__law_web_by : Callee P w K mg base 16 "_law_web_by" 2 M__law_web_by) :
    FnOk P w K mg base (L2.CX P w) 17 f fd ["script"] (spF K mg 1 M_law) :=
  fn_sound F sc_law fun cdv A outer s H E hr =>
  (ss_cons (ss_if (st_w (sw_or (st_not (st_val (sx_callC C__law_right hr rfl (lenA_cons lenA_nil) (sa_cons (sx_tup (sa_cons sx_int (sa_cons (sx_tup (sa_cons (sx_tup (sa_cons sx_int (sa_cons sx_int sa_nil))) sa_nil)) sa_nil))) sa_nil)))) (sw_or1 (st_not (st_val (sx_callC C__law_right hr rfl (lenA_cons lenA_nil) (sa_cons (sx_tup (sa_cons sx_int (sa_cons (sx_tup (sa_cons (sx_tup (sa_cons sx_int (sa_cons sx_int sa_nil))) (sa_cons (sx_tup (sa_cons sx_int (sa_cons sx_int sa_nil))) (sa_cons (sx_tup (sa_cons sx_int (sa_cons sx_int sa_nil))) (sa_cons (sx_tup (sa_cons sx_int (sa_cons sx_int sa_nil))) (sa_cons (sx_tup (sa_cons sx_int (sa_cons sx_int sa_nil))) sa_nil)))))) sa_nil))) sa_nil)))))))
  (ss_one (ss_ret sx_bl))
  ss_nil)
  (ss_cons (ss_for rfl (si_seq (sx_bin op_addA (add_ok _) (sx_lst (sa_cons (sx_callC C__law_cell_at hr rfl (lenA_cons (lenA_cons lenA_nil)) (sa_cons (sx_var 0) (sa_cons sx_int sa_nil))) sa_nil)) (sx_slice (sx_var 0) (so_some sx_int) (so_some sx_int)))) (sg_name 1 sc_law.nd)
  (ss_cons (ss_set 2 sc_law.nd (sx_callC C__law_pen_of hr rfl (lenA_cons lenA_nil) (sa_cons (sx_var 1) sa_nil)))
  (ss_cons (ss_set 3 sc_law.nd (sx_callC C__law_web_by hr rfl (lenA_cons (lenA_cons lenA_nil)) (sa_cons (sx_var 2) (sa_cons sx_int sa_nil))))
  (ss_one (ss_if (st_not (st_val (sx_callC C__law_right hr rfl (lenA_cons lenA_nil) (sa_cons (sx_tup (sa_cons (sx_item (u65 hr) (sx_var 3) sx_int) (sa_cons (sx_slice (sx_item (u65 hr) (sx_var 3) sx_int) so_none (so_some sx_int)) sa_nil))) sa_nil))))
  (ss_one (ss_ret sx_bl))
  ss_nil)))))
  (ss_one (ss_ret sx_bl))))
end K68
namespace K68
open PySem PySem.Spec PyProof.Rows L2 TN
theorem ob_eq (s : PySem.W.SharedT) : ob s = hk.obs s.abs := obsO_eq (HandSHeadRun.getT_eq s)
theorem facts {P : Program} {w : World} {K : PySem.W.Frag} {h : Heap} {mg : Str → Option Value} {f : Addr} (X : K.In h) (G : h.Ns mainGlobals mg) (hfa : mg ("law" : Str) = some (.ref f)) (c : He.SaysD fas fns K) (cx : exAll XS K = true) (co : oxAll RS K = true) (cb : obAll OS K = true) :
    ∃ fd : FuncData, (∀ (s : Shared) (u : Value), BindsTo s fd ⟨[u], []⟩ [("script", u)]) ∧ ∀ base : Heap, K.In base → base.Ns mainGlobals mg → FnOk P w K mg base (L2.CX P w) 17 f fd ["script"] (spF K mg 1 M_law) := by
  obtain ⟨fd__law_orders, F__law_orders⟩ := c.def_ 0 (d := d__law_orders) rfl
  obtain ⟨fd__law_sums_of, F__law_sums_of⟩ := c.def_ 1 (d := d__law_sums_of) rfl
  obtain ⟨fd__law_unlike, F__law_unlike⟩ := c.def_ 2 (d := d__law_unlike) rfl
  obtain ⟨fd_is_whole, F_is_whole⟩ := c.def_ 3 (d := d_is_whole) rfl
  obtain ⟨fd_are_numbers, F_are_numbers⟩ := c.def_ 4 (d := d_are_numbers) rfl
  obtain ⟨fd_sums_at, F_sums_at⟩ := c.def_ 5 (d := d_sums_at) rfl
  obtain ⟨fd_sums_unlike, F_sums_unlike⟩ := c.def_ 6 (d := d_sums_unlike) rfl
  obtain ⟨fd_unlike_good, F_unlike_good⟩ := c.def_ 7 (d := d_unlike_good) rfl
  obtain ⟨fd_Trier___init__, F_Trier___init__⟩ := c.def_ 8 (d := d_Trier___init__) rfl
  obtain ⟨fd_Trier_go, F_Trier_go⟩ := c.def_ 9 (d := d_Trier_go) rfl
  obtain ⟨fd_tried, F_tried⟩ := c.def_ 10 (d := d_tried) rfl
  obtain ⟨fd_unlike_count, F_unlike_count⟩ := c.def_ 11 (d := d_unlike_count) rfl
  obtain ⟨fd_check_place, F_check_place⟩ := c.def_ 12 (d := d_check_place) rfl
  obtain ⟨fd_ties_at, F_ties_at⟩ := c.def_ 13 (d := d_ties_at) rfl
  obtain ⟨fd_tie_counts, F_tie_counts⟩ := c.def_ 14 (d := d_tie_counts) rfl
  obtain ⟨fd_unlike_bar_holds, F_unlike_bar_holds⟩ := c.def_ 15 (d := d_unlike_bar_holds) rfl
  obtain ⟨fd_unlike_bar, F_unlike_bar⟩ := c.def_ 16 (d := d_unlike_bar) rfl
  obtain ⟨fd_hubs_of, F_hubs_of⟩ := c.def_ 17 (d := d_hubs_of) rfl
  obtain ⟨fd_need_hub, F_need_hub⟩ := c.def_ 18 (d := d_need_hub) rfl
  obtain ⟨fd_by_hub, F_by_hub⟩ := c.def_ 19 (d := d_by_hub) rfl
  obtain ⟨fd_numbers_in, F_numbers_in⟩ := c.def_ 20 (d := d_numbers_in) rfl
  obtain ⟨fd_unlike_by, F_unlike_by⟩ := c.def_ 21 (d := d_unlike_by) rfl
  obtain ⟨fd__law_right, F__law_right⟩ := c.def_ 22 (d := d__law_right) rfl
  obtain ⟨fd__law_cell_at, F__law_cell_at⟩ := c.def_ 23 (d := d__law_cell_at) rfl
  obtain ⟨fd__law_pen_of, F__law_pen_of⟩ := c.def_ 24 (d := d__law_pen_of) rfl
  obtain ⟨fd__law_next, F__law_next⟩ := c.def_ 25 (d := d__law_next) rfl
  obtain ⟨fd__law_draw, F__law_draw⟩ := c.def_ 26 (d := d__law_draw) rfl
  obtain ⟨fd__law_web_by, F__law_web_by⟩ := c.def_ 27 (d := d__law_web_by) rfl
  obtain ⟨fd_law, F_law⟩ := c.def_ 28 (d := d_law) rfl
  obtain ⟨fd_I_TooGreat, F_I_TooGreat⟩ := c.def_ 29 (d := d_I_TooGreat) rfl
  have g__law_orders := He.glo_ok X G (c.fact 0 (f := .glo "_law_orders") rfl)
  have g__law_sums_of := He.glo_ok X G (c.fact 1 (f := .glo "_law_sums_of") rfl)
  have g__law_unlike := He.glo_ok X G (c.fact 2 (f := .glo "_law_unlike") rfl)
  have g_is_whole := He.glo_ok X G (c.fact 3 (f := .glo "is_whole") rfl)
  have g_are_numbers := He.glo_ok X G (c.fact 4 (f := .glo "are_numbers") rfl)
  have g_sums_at := He.glo_ok X G (c.fact 5 (f := .glo "sums_at") rfl)
  have g_sums_unlike := He.glo_ok X G (c.fact 6 (f := .glo "sums_unlike") rfl)
  have g_unlike_good := He.glo_ok X G (c.fact 7 (f := .glo "unlike_good") rfl)
  have g_Trier___init__ : MkF K mg "Trier" := ⟨He.mkr_ok (c.fact 8 (f := .mkr "Trier") rfl), He.glo_ok X G (c.fact 9 (f := .glo "Trier") rfl), (ob_of cb (x := "Trier") (fs := ["web", "found", "first"]) (by decide)).1⟩
  have g_Trier_go : MethF K "Trier" "go" := ⟨He.cls_ok (c.fact 10 (f := .cls "Trier") rfl), He.meth_ok (c.fact 11 (f := .meth "Trier" "go") rfl)⟩
  have g_tried := He.glo_ok X G (c.fact 12 (f := .glo "tried") rfl)
  have g_unlike_count := He.glo_ok X G (c.fact 13 (f := .glo "unlike_count") rfl)
  have g_check_place := He.glo_ok X G (c.fact 14 (f := .glo "check_place") rfl)
  have g_ties_at := He.glo_ok X G (c.fact 15 (f := .glo "ties_at") rfl)
  have g_tie_counts := He.glo_ok X G (c.fact 16 (f := .glo "tie_counts") rfl)
  have g_unlike_bar_holds := He.glo_ok X G (c.fact 17 (f := .glo "unlike_bar_holds") rfl)
  have g_unlike_bar := He.glo_ok X G (c.fact 18 (f := .glo "unlike_bar") rfl)
  have g_hubs_of := He.glo_ok X G (c.fact 19 (f := .glo "hubs_of") rfl)
  have g_need_hub := He.glo_ok X G (c.fact 20 (f := .glo "need_hub") rfl)
  have g_by_hub := He.glo_ok X G (c.fact 21 (f := .glo "by_hub") rfl)
  have g_numbers_in := He.glo_ok X G (c.fact 22 (f := .glo "numbers_in") rfl)
  have g_unlike_by := He.glo_ok X G (c.fact 23 (f := .glo "unlike_by") rfl)
  have g__law_right := He.glo_ok X G (c.fact 24 (f := .glo "_law_right") rfl)
  have g__law_cell_at := He.glo_ok X G (c.fact 25 (f := .glo "_law_cell_at") rfl)
  have g__law_pen_of := He.glo_ok X G (c.fact 26 (f := .glo "_law_pen_of") rfl)
  have g__law_next := He.glo_ok X G (c.fact 27 (f := .glo "_law_next") rfl)
  have g__law_draw := He.glo_ok X G (c.fact 28 (f := .glo "_law_draw") rfl)
  have g__law_web_by := He.glo_ok X G (c.fact 29 (f := .glo "_law_web_by") rfl)
  have g_law := He.glo_ok X G (c.fact 30 (f := .glo "law") rfl)
  have h_range := He.free_ok X G (c.fact 31 (f := .free "range") rfl)
  have h_enumerate := He.free_ok X G (c.fact 32 (f := .free "enumerate") rfl)
  have h_sorted := He.free_ok X G (c.fact 33 (f := .free "sorted") rfl)
  have h_len := He.free_ok X G (c.fact 34 (f := .free "len") rfl)
  have h_isinstance := He.free_ok X G (c.fact 35 (f := .free "isinstance") rfl)
  have h_int := He.free_ok X G (c.fact 36 (f := .free "int") rfl)
  have h_bool := He.free_ok X G (c.fact 37 (f := .free "bool") rfl)
  have h_tuple := He.free_ok X G (c.fact 38 (f := .free "tuple") rfl)
  have h_all := He.free_ok X G (c.fact 39 (f := .free "all") rfl)
  have h_zip := He.free_ok X G (c.fact 40 (f := .free "zip") rfl)
  have h_set := He.free_ok X G (c.fact 41 (f := .free "set") rfl)
  have h_list := He.free_ok X G (c.fact 42 (f := .free "list") rfl)
  have OB := cb
  have i_MOST_TRIED := He.int_ok X G (c.fact 43 (f := .int "MOST_TRIED" (6)) rfl)
  have EX := exS_of X G cx
  have OX := co
  have x_NoPlace := c.fact 44 (f := .exc "NoPlace") rfl
  have h_str := He.free_ok X G (c.fact 45 (f := .free "str") rfl)
  have x_NoKind := c.fact 46 (f := .exc "NoKind") rfl
  have h_sum := He.free_ok X G (c.fact 47 (f := .free "sum") rfl)
  have x_NoNumber := c.fact 48 (f := .exc "NoNumber") rfl
  have h_min := He.free_ok X G (c.fact 49 (f := .free "min") rfl)
  have h_max := He.free_ok X G (c.fact 50 (f := .free "max") rfl)
  have e := hfa.symm.trans g_law
  cases e
  refine ⟨fd_law, fun s v => FunD.bindsA (ps := ["script"]) F_law (fun _ _ _ _ _ _ us hl => match us, hl with | [_], _ => rfl) s [v] rfl, fun base _ _ => ?_⟩
  have RA_TooGreat := ra_TooGreat (P := P) (w := w) (mg := mg) (base := base) F_I_TooGreat co (EX.all "TooGreat" (by decide)).glo
  have C__law_orders := ok__law_orders (P := P) (w := w) (base := base) F__law_orders g__law_orders h_range
  have C__law_sums_of := ok__law_sums_of (P := P) (w := w) (base := base) F__law_sums_of g__law_sums_of h_enumerate
  have C__law_unlike := ok__law_unlike (P := P) (w := w) (base := base) F__law_unlike g__law_unlike h_sorted h_range h_len (C__law_sums_of.up (by decide))
  have C_is_whole := ok_is_whole (P := P) (w := w) (base := base) F_is_whole g_is_whole h_isinstance h_int h_bool
  have C_are_numbers := ok_are_numbers (P := P) (w := w) (base := base) F_are_numbers g_are_numbers h_isinstance h_tuple h_len h_all (C_is_whole.up (by decide))
  have C_sums_at := ok_sums_at (P := P) (w := w) (base := base) F_sums_at g_sums_at h_zip
  have C_sums_unlike := ok_sums_unlike (P := P) (w := w) (base := base) F_sums_unlike g_sums_unlike h_len h_set (C_sums_at.up (by decide))
  have C_unlike_good := ok_unlike_good (P := P) (w := w) (base := base) F_unlike_good g_unlike_good h_len h_sorted h_range h_list (C_are_numbers.up (by decide)) (C_sums_unlike.up (by decide))
  have C_Trier___init__ := ok_Trier___init__ (P := P) (w := w) (base := base) F_Trier___init__ g_Trier___init__ OB
  have C_Trier_go := rec_Trier_go (P := P) (w := w) (base := base) F_Trier_go g_Trier_go OB h_len h_range (C_sums_unlike.up (by decide)) 10
  have C_tried := ok_tried (P := P) (w := w) (base := base) F_tried g_tried h_len i_MOST_TRIED EX OX (C_Trier___init__.up (by decide)) (C_Trier_go.up (by decide)) (RA_TooGreat.up (by decide))
  have C_unlike_count := ok_unlike_count (P := P) (w := w) (base := base) F_unlike_count g_unlike_count OB (C_tried.up (by decide))
  have C_check_place := ok_check_place (P := P) (w := w) (base := base) F_check_place g_check_place EX x_NoPlace (C_is_whole.up (by decide))
  have C_ties_at := ok_ties_at (P := P) (w := w) (base := base) F_ties_at g_ties_at h_enumerate (C_check_place.up (by decide))
  have C_tie_counts := ok_tie_counts (P := P) (w := w) (base := base) F_tie_counts g_tie_counts h_range h_len h_tuple (C_ties_at.up (by decide))
  have C_unlike_bar_holds := ok_unlike_bar_holds (P := P) (w := w) (base := base) F_unlike_bar_holds g_unlike_bar_holds h_isinstance h_tuple h_len h_str h_all (C_tie_counts.up (by decide)) (C_is_whole.up (by decide))
  have C_unlike_bar := ok_unlike_bar (P := P) (w := w) (base := base) F_unlike_bar g_unlike_bar h_range h_len h_enumerate (C_unlike_bar_holds.up (by decide)) (C_tie_counts.up (by decide))
  have C_hubs_of := ok_hubs_of (P := P) (w := w) (base := base) F_hubs_of g_hubs_of h_enumerate (C_tie_counts.up (by decide))
  have C_need_hub := ok_need_hub (P := P) (w := w) (base := base) F_need_hub g_need_hub EX x_NoKind (C_hubs_of.up (by decide))
  have C_by_hub := ok_by_hub (P := P) (w := w) (base := base) F_by_hub g_by_hub h_list h_enumerate h_range h_len h_sum h_sorted h_tuple (C_sums_at.up (by decide))
  have C_numbers_in := ok_numbers_in (P := P) (w := w) (base := base) F_numbers_in g_numbers_in h_isinstance h_list h_tuple h_len EX x_NoNumber h_all h_set h_sorted (C_is_whole.up (by decide))
  have C_unlike_by := ok_unlike_by (P := P) (w := w) (base := base) F_unlike_by g_unlike_by h_len (C_need_hub.up (by decide)) (C_by_hub.up (by decide)) (C_numbers_in.up (by decide))
  have C__law_right := ok__law_right (P := P) (w := w) (base := base) F__law_right g__law_right h_len h_range h_isinstance h_bool h_min h_max h_tuple h_list (C__law_orders.up (by decide)) (C__law_unlike.up (by decide)) (C_unlike_good.up (by decide)) (C_unlike_count.up (by decide)) (C_unlike_bar.up (by decide)) (C_unlike_by.up (by decide))
  have C__law_cell_at := ok__law_cell_at (P := P) (w := w) (base := base) F__law_cell_at g__law_cell_at h_len
  have C__law_pen_of := ok__law_pen_of (P := P) (w := w) (base := base) F__law_pen_of g__law_pen_of h_max h_int
  have C__law_next := ok__law_next (P := P) (w := w) (base := base) F__law_next g__law_next
  have C__law_draw := ok__law_draw (P := P) (w := w) (base := base) F__law_draw g__law_draw (C__law_next.up (by decide))
  have C__law_web_by := ok__law_web_by (P := P) (w := w) (base := base) F__law_web_by g__law_web_by h_range h_len h_min h_max h_list h_sorted h_tuple (C__law_draw.up (by decide))
  exact fn_law F_law  (C__law_right.up (by decide)) (C__law_cell_at.up (by decide)) (C__law_pen_of.up (by decide)) (C__law_web_by.up (by decide))
end K68
open PySem PySem.W PySem.Calls PyProof.Rows
theorem PySem.Challenge.cw_tienumbers_k68_whole_no_bar_and_unlike_holds : PySem.Challenge.rw_tienumbers_k68_whole_no_bar_and_unlike.Holds := by
  w_on; o_law
  refine HandSHeadRun.head_any (r := OpenLaw.row PySem.Challenge.rw_tienumbers_k68_whole_no_bar_and_unlike) (q := view (OpenLaw.row PySem.Challenge.rw_tienumbers_k68_whole_no_bar_and_unlike).prog [38]) (H := K68.hk) (ob := K68.ob) (M := 6000) (loose := (("TieError" : Str) :: "NoPlace" :: "NoKind" :: "NoNumber" :: "TooGreat" :: "is_whole" :: "check_place" :: "ties_at" :: "tie_counts" :: "hubs_of" :: "are_numbers" :: "MOST_TRIED" :: "sums_at" :: "sums_unlike" :: "unlike_good" :: "need_hub" :: "numbers_in" :: "by_hub" :: "unlike_by" :: "unlike_bar_holds" :: "unlike_bar" :: "Trier" :: "tried" :: "unlike_count" :: "_law_cell_at" :: "_law_next" :: "_law_pen_of" :: "_law_draw" :: "_law_web_by" :: "_law_sums_of" :: "_law_unlike" :: "_law_orders" :: "_law_right" :: [])) (d := HandSHeadRun.topDef (OpenLaw.row PySem.Challenge.rw_tienumbers_k68_whole_no_bar_and_unlike).prog 38) (kwd := []) K68.ob_eq
    (by kernel_rfl) (fun s => by kernel_rfl) K68.run (by kernel_rfl) (by kernel_rfl) (by kernel_rfl) (by rfl) (by first | assumption | decide +kernel) (by decide +kernel) ⟨rfl, rfl, rfl, rfl, rfl, by decide +kernel⟩ ?hw ?hc
  case hw => w_witness2
  case hc =>
    exact TN.law_endO (l := PySem.Challenge.rw_tienumbers_k68_whole_no_bar_and_unlike) (k := 17) (x := "script") (M := K68.M_law) rfl (by kernel_rfl) (by kernel_rfl) ⟨rfl, by decide, by decide⟩ (fun w K mg f h X G hf c cx co cb => K68.facts X G hf c cx co cb) K68.law_true

