import PyProof.Rows.All
import Wide.All
import OpenK.AllK
import Wide.FinOn
import PyProof.DictUpdate
import PyProof.DictItems
import PyProof.DictWalks
import PyProof.WalksMore
import PyProof.DefCall
import PyProof.Cells
import PyProof.CompFree
import PyProof.RaisesMany
import PyProof.RangeIter
import PyProof.CodeObj
import OpenK.KLine
import PyProof.ForAny
import PyProof.WalksPairs
import PyProof.RangeFor
import PyProof.ListIndexNeg
import KE.KItemsList
import KE.KDictList
import PyProof.EqAt
import PyProof.NeKinds
import PyProof.TypeOfCall
import Wide.BridgeG
import KE.KDictSum
import PyProof.Rows.SumGenD
import KE.KPairComp
import PyProof.Rows.SortStr
import PyProof.Rows.SortWalk
import PyProof.SliceMore
import PyProof.ListCopy
import PyProof.ListOps
import PyProof.WalkInts
import PyProof.StrOps
import PyProof.NoPylong
import PyProof.Rows.RuleN_isinstance
import PyProof.DictCopy
import PyProof.Rows.TupAssign
import PyProof.Rows.SumAny
import PyProof.RulesTry
import PyProof.RulesRaise
import PyProof.RaisesAny
import PyProof.RaisesDict
import PyProof.ExcFactsAll.ValueError
import KE.KEqDict
import PyProof.DictDisplay
import PyProof.GenQ
import PyProof.ConsumeS
import PyProof.CodeObjX
import PyProof.Rows.GenRows
import PyProof.Rows.RowBridgeG
import PyProof.DictCompW
import PyProof.Rows.FactsExc_KeyError
import PyProof.Rows.FactsExc_ValueError
import PyProof.Rows.Exc
import PyProof.AttrMissHeap
import PyProof.DictList
import PyProof.Walks
import PyProof.CollectWalk
import KE.KDictOf
import PyProof.Rows.EqNone
import PySem.Challenge.RW_pd_stockroom_2_07
set_option genSizeOf false
set_option genSizeOfSpec false
set_option maxRecDepth 100000
namespace SR
open PySem

/-- abstract values -/
inductive PV where
  | none
  | bool (b : Bool)
  | int (i : Int)
  | str (x : Str)
  | ty (n : String)
  | tup (vs : List PV)
  | ref (a : Addr)

mutual
inductive VR (h : Heap) : Value → PV → Prop
  | none : VR h .none .none
  | bool (b : Bool) : VR h (.bool b) (.bool b)
  | int (i : Int) (t : Tok) : VR h (.int i t) (.int i)
  | str (x : Str) (t : Tok) : VR h (.str x t) (.str x)
  | ty (n : String) : VR h (.type n) (.ty n)
  | tup {a : Addr} {vs : List Value} {pvs : List PV} : h.IsTuple a vs.toArray → VRs h vs pvs → VR h (.ref a) (.tup pvs)
  | ref (a : Addr) : VR h (.ref a) (.ref a)
inductive VRs (h : Heap) : List Value → List PV → Prop
  | nil : VRs h [] []
  | cons {v : Value} {vs : List Value} {p : PV} {ps : List PV} : VR h v p → VRs h vs ps → VRs h (v :: vs) (p :: ps)
end

/-- tuples stay -/
def TupKept (h h' : Heap) : Prop := ∀ a vs, h.IsTuple a vs → h'.IsTuple a vs
theorem TupKept.trans {h₁ h₂ h₃ : Heap} (x : TupKept h₁ h₂) (y : TupKept h₂ h₃) : TupKept h₁ h₃ := fun a vs e => y a vs (x a vs e)

mutual
theorem VR.mono {h h' : Heap} (k : TupKept h h') : ∀ {v : Value} {p : PV}, VR h v p → VR h' v p
  | _, _, .none => .none
  | _, _, .bool b => .bool b
  | _, _, .int i t => .int i t
  | _, _, .str x t => .str x t
  | _, _, .ty n => .ty n
  | _, _, .tup e r => .tup (k _ _ e) (VRs.mono k r)
  | _, _, .ref a => .ref a
theorem VRs.mono {h h' : Heap} (k : TupKept h h') : ∀ {v : List Value} {p : List PV}, VRs h v p → VRs h' v p
  | _, _, .nil => .nil
  | _, _, .cons e r => .cons (VR.mono k e) (VRs.mono k r)
end

theorem VRs.length {h : Heap} : ∀ {vs : List Value} {ps : List PV}, VRs h vs ps → vs.length = ps.length
  | _, _, .nil => rfl
  | _, _, .cons _ r => congrArg (· + 1) r.length
theorem VRs.append {h : Heap} : ∀ {vs ws : List Value} {ps qs : List PV}, VRs h vs ps → VRs h ws qs → VRs h (vs ++ ws) (ps ++ qs)
  | _, _, _, _, .nil, y => y
  | _, _, _, _, .cons e r, y => .cons e (r.append y)
theorem VRs.get {h : Heap} : ∀ {vs : List Value} {ps : List PV}, VRs h vs ps → ∀ (i : Nat) (p : PV), ps[i]? = some p → ∃ v, vs[i]? = some v ∧ VR h v p
  | _, _, .nil, _, _, e => by simp at e
  | _, _, .cons e r, 0, p, q => by simp at q; subst q; exact ⟨_, rfl, e⟩
  | _, _, .cons e r, i + 1, p, q => by simpa using r.get i p (by simpa using q)
theorem VRs.get' {h : Heap} : ∀ {vs : List Value} {ps : List PV}, VRs h vs ps → ∀ (i : Nat) (v : Value), vs[i]? = some v → ∃ p, ps[i]? = some p ∧ VR h v p
  | _, _, .nil, _, _, e => by simp at e
  | _, _, .cons e r, 0, p, q => by simp at q; subst q; exact ⟨_, rfl, e⟩
  | _, _, .cons e r, i + 1, p, q => by simpa using r.get' i p (by simpa using q)
theorem VRs.cons_inv {h : Heap} {vs : List Value} {p : PV} {ps : List PV} (x : VRs h vs (p :: ps)) : ∃ v ws, vs = v :: ws ∧ VR h v p ∧ VRs h ws ps := by
  cases x with
  | cons e r => exact ⟨_, _, rfl, e, r⟩
theorem VRs.nil_inv {h : Heap} {vs : List Value} (x : VRs h vs []) : vs = [] := by cases x; rfl
theorem VRs.drop {h : Heap} : ∀ (n : Nat) {vs : List Value} {ps : List PV}, VRs h vs ps → VRs h (vs.drop n) (ps.drop n)
  | 0, _, _, x => x
  | _ + 1, _, _, .nil => .nil
  | n + 1, _, _, .cons _ r => by simpa using r.drop n
theorem VRs.take {h : Heap} : ∀ (n : Nat) {vs : List Value} {ps : List PV}, VRs h vs ps → VRs h (vs.take n) (ps.take n)
  | 0, _, _, _ => .nil
  | _ + 1, _, _, .nil => .nil
  | n + 1, _, _, .cons e r => by simpa using VRs.cons e (r.take n)

/-- abstract objects -/
inductive AO where
  | list (vs : List PV)
  | dict (kvs : List (Str × PV))
  | idict (kvs : List (Int × PV))
  | range (lo hi : Int)
  | items (d : Addr)
  | vals (d : Addr)
  | keys (d : Addr)
  | tab (pos : Pos)

abbrev Sig := Addr → Option AO
abbrev Loc := Str → Option PV
def Sig.set (σ : Sig) (a : Addr) (o : AO) : Sig := fun b => if b = a then some o else σ b
def Loc.set (ρ : Loc) (x : Str) (v : PV) : Loc := fun y => if y = x then some v else ρ y
theorem Sig.set_self (σ : Sig) (a : Addr) (o : AO) : (σ.set a o) a = some o := by simp [Sig.set]
theorem Sig.set_ne (σ : Sig) {a b : Addr} (o : AO) (h : b ≠ a) : (σ.set a o) b = σ b := by simp [Sig.set, h]
theorem Sig.set_set (σ : Sig) (a : Addr) (o o' : AO) : (σ.set a o).set a o' = σ.set a o' := by funext b; simp only [Sig.set]; split <;> rfl
/-- what stands still during a law's call -/
structure Sx where
  prog : Program
  w : World
  base : Heap
  mg : Str → Option Value
  mb : Str → Option Value
  os : OsState
  gok : Array GenState → Prop

structure Sx.Ok (S : Sx) : Prop where
  g : S.base.Ns mainGlobals S.mg
  b : S.base.Ns builtinsNs S.mb
  nolimit : S.base.NoLimit

/-- entries stand for -/
inductive DP {K : Type} (h : Heap) : List (K × Value) → List (K × PV) → Prop
  | nil : DP h [] []
  | cons {k : K} {v : Value} {p : PV} {ws : List (K × Value)} {kvs : List (K × PV)} : VR h v p → DP h ws kvs → DP h ((k, v) :: ws) ((k, p) :: kvs)
theorem DP.mono {K : Type} {h h' : Heap} (k : TupKept h h') {ws : List (K × Value)} {kvs : List (K × PV)} (x : DP h ws kvs) : DP h' ws kvs := by
  induction x with
  | nil => exact .nil
  | cons e _ ih => exact .cons (e.mono k) ih
theorem DP.length {K : Type} {h : Heap} {ws : List (K × Value)} {kvs : List (K × PV)} (x : DP h ws kvs) : ws.length = kvs.length := by
  induction x with
  | nil => rfl
  | cons _ _ ih => exact congrArg (· + 1) ih
/-- an object stands for -/
def DRep {K : Type} [DecidableEq K] (h : Heap) {prog : Program} {w : World} (knd : KeyKind prog w K) (a : Addr) (kvs : List (K × PV)) : Prop :=
  (a == sysModules) = false ∧ ∃ ws, h.DictOf knd a ws ∧ DP h ws kvs
def OR (S : Sx) (h : Heap) (a : Addr) : AO → Prop
  | .list ps => ∃ vs : List Value, h.PlainList a vs.toArray ∧ VRs h vs ps
  | .dict kvs => DRep h (strKind S.prog S.w) a kvs
  | .idict kvs => DRep h (intKind S.prog S.w) a kvs
  | .range lo hi => ∃ t u v, IsRange h a lo hi 1 t u v
  | .items d => h.IsItemsView a d
  | .vals d => h.IsValuesView a d
  | .keys d => ∃ o, h.get? a = some o ∧ o.cls = .type "dict_keys" ∧ o.data = .fields #[.ref d]
  | .tab pos => ∃ ps : Array Value, h.get? a = some { cls := .none, data := .fields ps } ∧ (ps = #[] ∨ ∃ c, ps = #[rawInt pos.line, rawInt pos.col, c])

/-- the object is no tuple, no cell -/
theorem OR.there {S : Sx} {h : Heap} {a : Addr} {o : AO} (x : OR S h a o) : ∃ ob, h.get? a = some ob ∧ ob.cls ≠ .type "tuple" ∧ ∀ v, ob.data ≠ .cell v := by
  cases o with
  | list ps => obtain ⟨vs, ⟨n, e⟩, _⟩ := x; exact ⟨_, e, by simp, by simp⟩
  | dict kvs => obtain ⟨_, ws, ⟨ob, es, ep, e, hx, hd, _⟩, _⟩ := x; exact ⟨ob, e, by rw [hx.1]; simp, by rw [hd]; simp⟩
  | idict kvs => obtain ⟨_, ws, ⟨ob, es, ep, e, hx, hd, _⟩, _⟩ := x; exact ⟨ob, e, by rw [hx.1]; simp, by rw [hd]; simp⟩
  | range lo hi => obtain ⟨_, _, _, e⟩ := x; exact ⟨_, e, by simp, by simp⟩
  | items d => obtain ⟨o, e, hc, hd⟩ := x; exact ⟨o, e, by rw [hc]; simp, by rw [hd]; simp⟩
  | vals d => obtain ⟨o, e, hc, hd⟩ := x; exact ⟨o, e, by rw [hc]; simp, by rw [hd]; simp⟩
  | keys d => obtain ⟨o, e, hc, hd⟩ := x; exact ⟨o, e, by rw [hc]; simp, by rw [hd]; simp⟩
  | tab pos => obtain ⟨ps, e, _⟩ := x; exact ⟨_, e, by simp, by simp⟩
theorem OR.at {S : Sx} {h h' : Heap} {a : Addr} {o : AO} (x : OR S h a o) (k : TupKept h h') (e : ∀ ob, h.get? a = some ob → h'.get? a = some ob) : OR S h' a o := by
  cases o with
  | list ps => obtain ⟨vs, ⟨n, q⟩, r⟩ := x; exact ⟨vs, ⟨n, e _ q⟩, r.mono k⟩
  | dict kvs => obtain ⟨z, ws, ⟨ob, es, ep, q, hx⟩, r⟩ := x; exact ⟨z, ws, ⟨ob, es, ep, e _ q, hx⟩, r.mono k⟩
  | idict kvs => obtain ⟨z, ws, ⟨ob, es, ep, q, hx⟩, r⟩ := x; exact ⟨z, ws, ⟨ob, es, ep, e _ q, hx⟩, r.mono k⟩
  | range lo hi => obtain ⟨t, u, v, q⟩ := x; exact ⟨t, u, v, e _ q⟩
  | items d => obtain ⟨o, q, r⟩ := x; exact ⟨o, e _ q, r⟩
  | vals d => obtain ⟨o, q, r⟩ := x; exact ⟨o, e _ q, r⟩
  | keys d => obtain ⟨o, q, r⟩ := x; exact ⟨o, e _ q, r⟩
  | tab pos => obtain ⟨ps, q, r⟩ := x; exact ⟨ps, e _ q, r⟩

/-- a frame's context -/
structure Cx where
  S : Sx
  kd : Str → Option NameKind
  ro : List Addr
  room : Nat
  A : Around
  env : Env
  own : List Addr
  frs : List Env

def fsOf (frs : List Env) : List Addr := frs.filterMap (·.frame)

structure Cx.Ok (C : Cx) : Prop where
  S : C.S.Ok
  hh : C.A.handled = none
  depth : C.A.depth + C.room < recursionLimit
  units : C.A.units + 8 * C.room + 8 < cLine
  kind : C.env.scope.kind = .function
  globals : C.env.globals = mainGlobals
  builtins : C.env.builtins = builtinsNs
  kinds : ∀ x k, C.kd x = some k → C.env.kindOf x = some k
  loc : C.env.locals ∈ C.own
  cells : ∀ x c, C.env.cells.lookup x = some c → C.kd x = some .cell → c ∈ C.own ∧ c ≠ C.env.locals
  apart : ∀ x y c, C.env.cells.lookup x = some c → C.env.cells.lookup y = some c → x = y
  new : ∀ a ∈ C.own, C.S.base.get? a = none
  frames : C.A.frames = some C.frs

/-- where a name of the frame lies -/
def NameAt (C : Cx) (m : Str → Option Value) (h : Heap) (x : Str) (p : PV) : Prop :=
  (C.env.kindOf x = some .local ∧ ∃ v, m x = some v ∧ VR h v p) ∨
  ((C.env.kindOf x = some .cell ∨ (C.env.kindOf x = some .free ∧ (x == ("__classdict__" : Str)) = false)) ∧ ∃ c v, C.env.cells.lookup x = some c ∧ c ≠ C.env.locals ∧ h.IsCell c (some v) ∧ VR h v p)

structure FrRep (C : Cx) (ρ : Loc) (h : Heap) : Prop where
  ns : ∃ m, h.Ns C.env.locals m ∧ ∀ x p, ρ x = some p → NameAt C m h x p
  cells : ∀ x c, C.env.cells.lookup x = some c → ∃ v, h.IsCell c v
  own : ∀ a ∈ C.own, ∃ o, h.get? a = some o ∧ ((∃ es ep, o.data = .dict es ep) ∨ (∃ v, o.data = .cell v))

structure GSt (S : Sx) (frs : List Env) (σ : Sig) (s : Shared) : Prop where
  base : ∀ b o, S.base.get? b = some o → s.heap.get? b = some o
  os : s.os = S.os
  gens : S.gok s.gens
  sig : ∀ a o, σ a = some o → S.base.get? a = none ∧ OR S s.heap a o
  frames : ∀ env ∈ frs, env.scope.kind ≠ .module ∧ ∃ L o, env.frame = some L ∧ S.base.get? L = none ∧ s.heap.get? L = some o ∧ ∃ es ep, o.data = .dict es ep
  offF : ∀ a o, σ a = some o → a ∉ fsOf frs

structure St (C : Cx) (ρ : Loc) (σ : Sig) (s : Shared) : Prop extends GSt C.S C.frs σ s where
  fr : FrRep C ρ s.heap
  off : ∀ a o, σ a = some o → a ∉ C.own

def SameObj (fs : List Addr) (a : Addr) (o o' : Obj) : Prop := o' = o ∨ (a ∈ fs ∧ o'.data = o.data)
theorem SameObj.refl (fs : List Addr) (a : Addr) (o : Obj) : SameObj fs a o o := .inl rfl
theorem SameObj.trans {fs : List Addr} {x : Addr} {a b c : Obj} (p : SameObj fs x a b) (y : SameObj fs x b c) : SameObj fs x a c := by
  rcases p with rfl | ⟨x1, x2⟩
  · exact y
  · rcases y with rfl | ⟨y1, y2⟩
    · exact .inr ⟨x1, x2⟩
    · exact .inr ⟨x1, y2.trans x2⟩
theorem SameObj.data {fs : List Addr} {x : Addr} {a b : Obj} (p : SameObj fs x a b) : b.data = a.data := by
  rcases p with rfl | ⟨_, e⟩
  · rfl
  · exact e

def Kept (D : Addr → Prop) (fs : List Addr) (h h' : Heap) : Prop := ∀ a o, h.get? a = some o → ¬ D a → ∃ o', h'.get? a = some o' ∧ SameObj fs a o o'
theorem Kept.refl (D : Addr → Prop) (fs : List Addr) (h : Heap) : Kept D fs h h := fun _ o e _ => ⟨o, e, .refl _ _ o⟩

/-- what a piece of the frame may change: its own objects, and the signature's that are not read-only -/
def Dom (own ro : List Addr) (σ : Sig) (a : Addr) : Prop := a ∈ own ∨ ((σ a).isSome ∧ a ∉ ro)

structure Stp (own ro fs : List Addr) (σ : Sig) (s : Shared) (σ' : Sig) (s' : Shared) : Prop where
  kept : Kept (Dom own ro σ) fs s.heap s'.heap
  live : ∀ a o, s.heap.get? a = some o → ∃ o', s'.heap.get? a = some o'
  dom : ∀ a, (σ' a).isSome → (σ a).isSome ∨ s.heap.get? a = none
abbrev Step (C : Cx) (σ : Sig) (s : Shared) (σ' : Sig) (s' : Shared) : Prop := Stp C.own C.ro (fsOf C.frs) σ s σ' s'

theorem Stp.refl (own ro fs : List Addr) (σ : Sig) (s : Shared) : Stp own ro fs σ s σ s := ⟨.refl _ _ _, fun _ o e => ⟨o, e⟩, fun _ h => .inl h⟩
theorem Stp.anti {own ro fs : List Addr} {σ σ₁ : Sig} {s s₁ : Shared} (x : Stp own ro fs σ s σ₁ s₁) {a : Addr} (h : s₁.heap.get? a = none) : s.heap.get? a = none := by
  cases e : s.heap.get? a with
  | none => rfl
  | some o => obtain ⟨o', e'⟩ := x.live a o e; rw [h] at e'; cases e'
theorem Stp.trans {own ro fs : List Addr} {σ σ₁ σ₂ : Sig} {s s₁ s₂ : Shared} (x : Stp own ro fs σ s σ₁ s₁) (y : Stp own ro fs σ₁ s₁ σ₂ s₂) : Stp own ro fs σ s σ₂ s₂ := by
  refine ⟨fun a o e nd => ?_, fun a o e => ?_, fun a h => ?_⟩
  · obtain ⟨o₁, e₁, q₁⟩ := x.kept a o e nd
    obtain ⟨o₂, e₂, q₂⟩ := y.kept a o₁ e₁ (by
      rintro (h | ⟨h, hr⟩)
      · exact nd (.inl h)
      · rcases x.dom a h with h | h
        · exact nd (.inr ⟨h, hr⟩)
        · rw [e] at h; cases h)
    exact ⟨o₂, e₂, q₁.trans q₂⟩
  · obtain ⟨o₁, e₁⟩ := x.live a o e
    exact y.live a o₁ e₁
  · rcases y.dom a h with h | h
    · exact x.dom a h
    · exact .inr (x.anti h)

theorem GSt.frame_data {S : Sx} {frs : List Env} {σ : Sig} {s : Shared} (x : GSt S frs σ s) {a : Addr} (h : a ∈ fsOf frs) : ∃ o es ep, s.heap.get? a = some o ∧ o.data = .dict es ep := by
  obtain ⟨env, he, hf⟩ := List.mem_filterMap.mp h
  obtain ⟨_, L, o, hL, _, ho, es, ep, hd⟩ := x.frames env he
  rw [hf] at hL; cases hL
  exact ⟨o, es, ep, ho, hd⟩

/-- tuples are never in a frame's reach -/
theorem St.tup {C : Cx} {ρ : Loc} {σ : Sig} {s : Shared} (x : St C ρ σ s) {h' : Heap} (k : Kept (Dom C.own C.ro σ) (fsOf C.frs) s.heap h') : TupKept s.heap h' := by
  rintro a vs ⟨o, e, hc, n, hd⟩
  obtain ⟨o', e', q⟩ := k a o e (by
    rintro (h | ⟨h, _⟩)
    · obtain ⟨o₁, e₁, q⟩ := x.fr.own a h
      rw [e] at e₁; cases e₁
      rcases q with ⟨_, _, q⟩ | ⟨_, q⟩ <;> rw [hd] at q <;> cases q
    · obtain ⟨ao, hao⟩ := Option.isSome_iff_exists.mp h
      obtain ⟨o₁, e₁, q, _⟩ := (x.sig a ao hao).2.there
      rw [e] at e₁; cases e₁
      exact q hc)
  rcases q with rfl | ⟨q, _⟩
  · exact ⟨_, e', hc, n, hd⟩
  · obtain ⟨o₁, es, ep, e₁, hd₁⟩ := x.frame_data q
    rw [e] at e₁; cases e₁
    rw [hd] at hd₁; cases hd₁

/-- the abstract end of an expression -/
def Post (C : Cx) (ρ : Loc) (σ : Sig) (s : Shared) (Q : PV → Sig → Prop) (v : Value) (s' : Shared) : Prop :=
  ∃ p σ', VR s'.heap v p ∧ St C ρ σ' s' ∧ Step C σ s σ' s' ∧ Q p σ'

structure NewE (s s' : Shared) (e : Addr) (cls : String) : Prop where
  new : s.heap.get? e = none
  there : ∃ ob t, s'.heap.get? e = some ob ∧ ob.cls = .type cls ∧ ob.data = .fields #[t, .none, .none, .none, .bool false, .none]

/-- the abstract end by an exception, made in this very frame -/
def Exc (C : Cx) (σ : Sig) (s : Shared) (X : String → Sig → Prop) (e : Value) (s' : Shared) : Prop :=
  ∃ ea cls σ' ρ', e = .ref ea ∧ NewE s s' ea cls ∧ St C ρ' σ' s' ∧ Step C σ s σ' s' ∧ X cls σ'

theorem Exc.step {C : Cx} {σ σ₁ : Sig} {s s₁ s' : Shared} {X : String → Sig → Prop} {e : Value} (k : Step C σ s σ₁ s₁) (x : Exc C σ₁ s₁ X e s') : Exc C σ s X e s' := by
  obtain ⟨ea, cls, σ', ρ', rfl, ⟨h1, h2⟩, h3, h4, h5⟩ := x
  exact ⟨ea, cls, σ', ρ', rfl, ⟨k.anti h1, h2⟩, h3, k.trans h4, h5⟩

def noX : String → Sig → Prop := fun _ _ => False

/-- the triple of any tree that hands back a value -/
def Tr (C : Cx) (t : Sem Value) (ρ : Loc) (σ : Sig) (Q : PV → Sig → Prop) (X : String → Sig → Prop) : Prop :=
  ∀ s, St C ρ σ s → wpAny (model C.S.prog C.S.w) C.A t (Post C ρ σ s Q) (Exc C σ s X) s
/-- an expression -/
structure Ev (C : Cx) (e : Expr) (ρ : Loc) (σ : Sig) (Q : PV → Sig → Prop) (X : String → Sig → Prop := noX) : Prop where
  run : Tr C (eval e C.env) ρ σ Q X

/-- the abstract flows -/
inductive Fl where
  | next | brk | cont
  | ret (v : PV)
def FR (h : Heap) : Flow → Fl → Prop
  | .next, .next => True
  | .brk, .brk => True
  | .cont, .cont => True
  | .ret v, .ret p => VR h v p
  | _, _ => False

def PostS (C : Cx) (σ : Sig) (s : Shared) (Q : Fl → Loc → Sig → Prop) (f : Flow) (s' : Shared) : Prop :=
  ∃ fl ρ' σ', FR s'.heap f fl ∧ St C ρ' σ' s' ∧ Step C σ s σ' s' ∧ Q fl ρ' σ'
def TrS (C : Cx) (t : Sem Flow) (ρ : Loc) (σ : Sig) (Q : Fl → Loc → Sig → Prop) (X : String → Sig → Prop) : Prop :=
  ∀ s, St C ρ σ s → wpAny (model C.S.prog C.S.w) C.A t (PostS C σ s Q) (Exc C σ s X) s
structure Ex (C : Cx) (st : Stmt) (ρ : Loc) (σ : Sig) (Q : Fl → Loc → Sig → Prop) (X : String → Sig → Prop := noX) : Prop where
  run : TrS C (exec st C.env) ρ σ Q X
structure Exs (C : Cx) (st : List Stmt) (ρ : Loc) (σ : Sig) (Q : Fl → Loc → Sig → Prop) (X : String → Sig → Prop := noX) : Prop where
  run : TrS C (execs st C.env) ρ σ Q X

/-- a test -/
def PostB (C : Cx) (ρ : Loc) (σ : Sig) (s : Shared) (Q : Bool → Sig → Prop) (b : Bool) (s' : Shared) : Prop :=
  ∃ σ', St C ρ σ' s' ∧ Step C σ s σ' s' ∧ Q b σ'
def TrB (C : Cx) (t : Sem Bool) (ρ : Loc) (σ : Sig) (Q : Bool → Sig → Prop) (X : String → Sig → Prop) : Prop :=
  ∀ s, St C ρ σ s → wpAny (model C.S.prog C.S.w) C.A t (PostB C ρ σ s Q) (Exc C σ s X) s
structure Te (C : Cx) (e : Expr) (ρ : Loc) (σ : Sig) (Q : Bool → Sig → Prop) (X : String → Sig → Prop := noX) : Prop where
  run : TrB C (isTrue e C.env (eval e C.env)) ρ σ Q X

end SR

set_option maxRecDepth 100000
namespace SR
open PySem

section
variable {C : Cx} {ρ : Loc} {σ : Sig} {s : Shared}

theorem TupKept.of_ext {h h' : Heap} (hk : ∀ b o, h.get? b = some o → h'.get? b = some o) : TupKept h h' := fun a vs ⟨o, e, r⟩ => ⟨o, hk a o e, r⟩

theorem NameAt.at {m : Str → Option Value} {h h' : Heap} {x : Str} {p : PV} (n : NameAt C m h x p) (k : TupKept h h') (hc : ∀ c v, c ≠ C.env.locals → h.IsCell c v → h'.IsCell c v) : NameAt C m h' x p := by
  rcases n with ⟨h1, v, h2, h3⟩ | ⟨h1, c, v, h2, h4, h5, h6⟩
  · exact .inl ⟨h1, v, h2, h3.mono k⟩
  · exact .inr ⟨h1, c, v, h2, h4, hc c _ h4 h5, h6.mono k⟩

theorem St.tok (x : St C ρ σ s) (t : Nat) : St C ρ σ { s with toks := t } :=
  ⟨⟨x.base, x.os, x.gens, x.sig, x.frames, x.offF⟩, x.fr, x.off⟩
theorem Step.tok (C : Cx) (σ : Sig) (s : Shared) (t : Nat) : Step C σ s σ { s with toks := t } := ⟨.refl _ _ _, fun _ o e => ⟨o, e⟩, fun _ h => .inl h⟩

theorem FrRep.ext {h h' : Heap} (f : FrRep C ρ h) (hk : ∀ b o, h.get? b = some o → h'.get? b = some o) : FrRep C ρ h' := by
  obtain ⟨m, hn, hx⟩ := f.ns
  refine ⟨⟨m, hn.keeps hk, fun x p e => (hx x p e).at (.of_ext hk) fun c v _ y => y.keeps hk⟩, fun x c h1 => ?_, fun a ha => ?_⟩
  · obtain ⟨v, y⟩ := f.cells x c h1; exact ⟨v, y.keeps hk⟩
  · obtain ⟨o, e, r⟩ := f.own a ha; exact ⟨o, hk a o e, r⟩

theorem GSt.ext {S : Sx} {frs : List Env} {h' : Heap} {t : Nat} (x : GSt S frs σ s) (hk : ∀ b o, s.heap.get? b = some o → h'.get? b = some o) : GSt S frs σ { s with heap := h', toks := t } := by
  refine ⟨fun b o e => hk b o (x.base b o e), x.os, x.gens, fun a o e => ⟨(x.sig a o e).1, (x.sig a o e).2.at (.of_ext hk) fun ob q => hk a ob q⟩, fun env he => ?_, x.offF⟩
  obtain ⟨h1, L, o, h2, h3, h4, h5⟩ := x.frames env he
  exact ⟨h1, L, o, h2, h3, hk L o h4, h5⟩
theorem St.ext {h' : Heap} {t : Nat} (x : St C ρ σ s) (hk : ∀ b o, s.heap.get? b = some o → h'.get? b = some o) : St C ρ σ { s with heap := h', toks := t } :=
  ⟨x.toGSt.ext hk, x.fr.ext hk, x.off⟩
theorem Stp.ext {own ro fs : List Addr} {h' : Heap} {t : Nat} (hk : ∀ b o, s.heap.get? b = some o → h'.get? b = some o) : Stp own ro fs σ s σ { s with heap := h', toks := t } :=
  ⟨fun a o e _ => ⟨o, hk a o e, .refl _ _ _⟩, fun a o e => ⟨o, hk a o e⟩, fun _ h => .inl h⟩

theorem GSt.fresh_base {S : Sx} {frs : List Env} (x : GSt S frs σ s) {a : Addr} (ha : s.heap.get? a = none) : S.base.get? a = none := by
  cases e : S.base.get? a with
  | none => rfl
  | some o => rw [x.base a o e] at ha; cases ha
theorem GSt.fresh_fs {S : Sx} {frs : List Env} (x : GSt S frs σ s) {a : Addr} (ha : s.heap.get? a = none) : a ∉ fsOf frs := fun h => by
  obtain ⟨o, _, _, e, _⟩ := x.frame_data h; rw [ha] at e; cases e
theorem St.fresh_own (x : St C ρ σ s) {a : Addr} (ha : s.heap.get? a = none) : a ∉ C.own := fun h => by
  obtain ⟨o, e, _⟩ := x.fr.own a h; rw [ha] at e; cases e
theorem GSt.fresh_sig {S : Sx} {frs : List Env} (x : GSt S frs σ s) {a : Addr} (ha : s.heap.get? a = none) : σ a = none := by
  cases e : σ a with
  | none => rfl
  | some o => obtain ⟨ob, q, _⟩ := (x.sig a o e).2.there; rw [ha] at q; cases q

theorem GSt.alloc {S : Sx} {frs : List Env} {h' : Heap} {t : Nat} {a : Addr} {o : AO} (x : GSt S frs σ s) (hk : ∀ b o, s.heap.get? b = some o → h'.get? b = some o) (ha : s.heap.get? a = none) (hr : OR S h' a o) :
    GSt S frs (σ.set a o) { s with heap := h', toks := t } := by
  have y := x.ext (t := t) hk
  refine ⟨y.base, y.os, y.gens, fun b ob e => ?_, y.frames, fun b ob e => ?_⟩
  · simp only [Sig.set] at e
    split at e
    · next h => subst h; cases e; exact ⟨x.fresh_base ha, hr⟩
    · exact y.sig b ob e
  · simp only [Sig.set] at e
    split at e
    · next h => subst h; exact x.fresh_fs ha
    · exact y.offF b ob e
theorem St.alloc {h' : Heap} {t : Nat} {a : Addr} {o : AO} (x : St C ρ σ s) (hk : ∀ b o, s.heap.get? b = some o → h'.get? b = some o) (ha : s.heap.get? a = none) (hr : OR C.S h' a o) :
    St C ρ (σ.set a o) { s with heap := h', toks := t } := by
  refine ⟨x.toGSt.alloc hk ha hr, x.fr.ext hk, fun b ob e => ?_⟩
  simp only [Sig.set] at e
  split at e
  · next h => subst h; exact x.fresh_own ha
  · exact x.off b ob e
theorem Stp.alloc {own ro fs : List Addr} {h' : Heap} {t : Nat} {a : Addr} {o : AO} (hk : ∀ b o, s.heap.get? b = some o → h'.get? b = some o) (ha : s.heap.get? a = none) :
    Stp own ro fs σ s (σ.set a o) { s with heap := h', toks := t } := by
  refine ⟨fun a o e _ => ⟨o, hk a o e, .refl _ _ _⟩, fun a o e => ⟨o, hk a o e⟩, fun b h => ?_⟩
  simp only [Sig.set] at h
  split at h
  · next e => subst e; exact .inr ha
  · exact .inl h

theorem GSt.not_tup {S : Sx} {frs : List Env} (x : GSt S frs σ s) {a : Addr} {o : AO} (hσ : σ a = some o) (vs : Array Value) : ¬ s.heap.IsTuple a vs := by
  rintro ⟨ob, e, hc, _⟩
  obtain ⟨o₁, e₁, q, _⟩ := (x.sig a o hσ).2.there
  rw [e] at e₁; cases e₁; exact q hc
theorem GSt.upd {S : Sx} {frs : List Env} {h' : Heap} {t : Nat} {a : Addr} {o o' : AO} (x : GSt S frs σ s) (hσ : σ a = some o) (hk : ∀ b o, b ≠ a → s.heap.get? b = some o → h'.get? b = some o) (hr : OR S h' a o') :
    GSt S frs (σ.set a o') { s with heap := h', toks := t } := by
  have tk : TupKept s.heap h' := fun b vs y => by
    by_cases e : b = a
    · subst e; exact (x.not_tup hσ vs y).elim
    · obtain ⟨ob, q, r⟩ := y; exact ⟨ob, hk b ob e q, r⟩
  refine ⟨fun b ob e => hk b ob (fun q => ?_) (x.base b ob e), x.os, x.gens, fun b ob e => ?_, fun env he => ?_, fun b ob e => ?_⟩
  · rw [q, (x.sig a o hσ).1] at e; cases e
  · simp only [Sig.set] at e
    split at e
    · next h => subst h; cases e; exact ⟨(x.sig b o hσ).1, hr⟩
    · next h => exact ⟨(x.sig b ob e).1, (x.sig b ob e).2.at tk fun o₁ q => hk b o₁ h q⟩
  · obtain ⟨h1, L, o₁, h2, h3, h4, h5⟩ := x.frames env he
    refine ⟨h1, L, o₁, h2, h3, hk L o₁ (fun q => ?_) h4, h5⟩
    exact x.offF a o hσ (List.mem_filterMap.mpr ⟨env, he, q ▸ h2⟩)
  · simp only [Sig.set] at e
    split at e
    · next h => subst h; exact x.offF b o hσ
    · exact x.offF b ob e
theorem St.upd {h' : Heap} {t : Nat} {a : Addr} {o o' : AO} (x : St C ρ σ s) (hσ : σ a = some o) (hk : ∀ b o, b ≠ a → s.heap.get? b = some o → h'.get? b = some o) (hr : OR C.S h' a o') (ok : C.Ok) :
    St C ρ (σ.set a o') { s with heap := h', toks := t } := by
  have nown : ∀ b ∈ C.own, b ≠ a := fun b hb q => x.off a o hσ (q ▸ hb)
  have tk : TupKept s.heap h' := fun b vs y => by
    by_cases e : b = a
    · subst e; exact (x.not_tup hσ vs y).elim
    · obtain ⟨ob, q, r⟩ := y; exact ⟨ob, hk b ob e q, r⟩
  have cellk : ∀ c v, s.heap.IsCell c v → h'.IsCell c v := fun c v ⟨ob, q, r⟩ => ⟨ob, hk c ob (fun e => by
    subst e
    obtain ⟨o₁, e₁, _, hc⟩ := (x.sig c o hσ).2.there
    rw [q] at e₁; cases e₁; exact hc v r) q, r⟩
  refine ⟨x.toGSt.upd hσ hk hr, ⟨?_, fun y c h1 => ?_, fun b hb => ?_⟩, fun b ob e => ?_⟩
  · obtain ⟨m, hn, hx⟩ := x.fr.ns
    exact ⟨m, hn.extBut (b := a) (fun b ob hb e => hk b ob hb e) (nown _ ok.loc), fun y p e => (hx y p e).at tk fun c v _ => cellk c v⟩
  · obtain ⟨v, q⟩ := x.fr.cells y c h1; exact ⟨v, cellk c v q⟩
  · obtain ⟨ob, e, r⟩ := x.fr.own b hb; exact ⟨ob, hk b ob (nown b hb) e, r⟩
  · simp only [Sig.set] at e
    split at e
    · next h => subst h; exact x.off b o hσ
    · exact x.off b ob e
theorem Stp.upd {S : Sx} {own ro fs : List Addr} {h' : Heap} {t : Nat} {a : Addr} {o o' : AO} (hσ : σ a = some o) (hro : a ∉ ro) (hk : ∀ b o, b ≠ a → s.heap.get? b = some o → h'.get? b = some o) (hr : OR S h' a o') :
    Stp own ro fs σ s (σ.set a o') { s with heap := h', toks := t } := by
  refine ⟨fun b ob e nd => ?_, fun b ob e => ?_, fun b h => ?_⟩
  · have : b ≠ a := fun q => nd (.inr ⟨by rw [q, hσ]; rfl, q ▸ hro⟩)
    exact ⟨ob, hk b ob this e, .refl _ _ _⟩
  · by_cases q : b = a
    · subst q; obtain ⟨ob', e', _⟩ := hr.there; exact ⟨ob', e'⟩
    · exact ⟨ob, hk b ob q e⟩
  · simp only [Sig.set] at h
    split at h
    · next e => subst e; exact .inl (by rw [hσ]; rfl)
    · exact .inl h

/-- a name is stored -/
theorem St.store {h' : Heap} {t : Nat} {m : Str → Option Value} {x : Str} {v : Value} {p : PV} (y : St C ρ σ s) (ok : C.Ok) (hn : s.heap.Ns C.env.locals m) (hx : ∀ z q, ρ z = some q → NameAt C m s.heap z q)
    (hk : C.env.kindOf x = some .local) (hv : VR s.heap v p) (hn' : h'.Ns C.env.locals (fun z => if z = x then some v else m z)) (hs : Heap.SameBut C.env.locals s.heap h') :
    St C (ρ.set x p) σ { s with heap := h', toks := t } ∧ Step C σ s σ { s with heap := h', toks := t } := by
  have kp : ∀ b o, b ≠ C.env.locals → s.heap.get? b = some o → h'.get? b = some o := fun b o hb e => (hs.2 b hb).trans e
  obtain ⟨oL, es, ep, hL, hd, _⟩ := hn
  have tk : TupKept s.heap h' := fun b vs q => by
    obtain ⟨ob, e, hc, n, r⟩ := q
    refine ⟨ob, kp b ob (fun q => ?_) e, hc, n, r⟩
    subst q; rw [hL] at e; cases e; rw [hd] at r; cases r
  have nσ : ∀ a o, σ a = some o → a ≠ C.env.locals := fun a o e q => y.off a o e (q ▸ ok.loc)
  have liveL : ∃ o', h'.get? C.env.locals = some o' ∧ ∃ es ep, o'.data = .dict es ep := by obtain ⟨o', es', ep', e', hd', _⟩ := hn'; exact ⟨o', e', es', ep', hd'⟩
  refine ⟨⟨⟨fun b ob e => kp b ob (fun q => ?_) (y.base b ob e), y.os, y.gens, fun a o e => ⟨(y.sig a o e).1, (y.sig a o e).2.at tk fun ob q => kp a ob (nσ a o e) q⟩, fun env he => ?_, y.offF⟩, ⟨⟨_, hn', fun z q e => ?_⟩, fun z c h1 => ?_, fun a ha => ?_⟩, y.off⟩, ⟨fun b ob e nd => ?_, fun b ob e => ?_, fun _ h => .inl h⟩⟩
  · rw [q, ok.new _ ok.loc] at e; cases e
  · obtain ⟨h1, L, o₁, h2, h3, h4, h5⟩ := y.frames env he
    by_cases q : L = C.env.locals
    · obtain ⟨o', e', r⟩ := liveL; exact ⟨h1, L, o', h2, h3, q ▸ e', r⟩
    · exact ⟨h1, L, o₁, h2, h3, kp L o₁ q h4, h5⟩
  · simp only [Loc.set] at e
    split at e
    · next h => subst h; cases e; exact .inl ⟨hk, v, by simp, hv.mono tk⟩
    · next h =>
      rcases hx z q e with ⟨h1, u, h2, h3⟩ | ⟨h1, c, u, h2, h4, h5, h6⟩
      · exact .inl ⟨h1, u, by simp [h, h2], h3.mono tk⟩
      · exact .inr ⟨h1, c, u, h2, h4, h5.sameBut hs h4, h6.mono tk⟩
  · obtain ⟨u, q⟩ := y.fr.cells z c h1
    refine ⟨u, q.sameBut hs fun z => ?_⟩
    obtain ⟨oc, ec, dc⟩ := q
    rw [z, hL] at ec; cases ec; rw [hd] at dc; cases dc
  · by_cases q : a = C.env.locals
    · obtain ⟨o', e', r⟩ := liveL; exact ⟨o', q ▸ e', .inl r⟩
    · obtain ⟨o, e, r⟩ := y.fr.own a ha; exact ⟨o, kp a o q e, r⟩
  · exact ⟨ob, kp b ob (fun q => nd (.inl (q ▸ ok.loc))) e, .refl _ _ _⟩
  · by_cases q : b = C.env.locals
    · obtain ⟨o', e', _⟩ := liveL; exact ⟨o', q ▸ e'⟩
    · exact ⟨ob, kp b ob q e⟩

/-- a cell's name is stored -/
theorem St.storeC {h' : Heap} {t : Nat} {x : Str} {v : Value} {p : PV} {c : Addr} (y : St C ρ σ s) (ok : C.Ok)
    (hk : C.env.kindOf x = some .cell) (hkd : C.kd x = some .cell) (hc : C.env.cells.lookup x = some c) (hv : VR s.heap v p) (hn' : h'.IsCell c (some v)) (hs : Heap.SameBut c s.heap h') :
    St C (ρ.set x p) σ { s with heap := h', toks := t } ∧ Step C σ s σ { s with heap := h', toks := t } := by
  have kp : ∀ b o, b ≠ c → s.heap.get? b = some o → h'.get? b = some o := fun b o hb e => (hs.2 b hb).trans e
  obtain ⟨hown, hcL⟩ := ok.cells x c hc hkd
  obtain ⟨v₀, oc, hL, hd⟩ := y.fr.cells x c hc
  have tk : TupKept s.heap h' := fun b vs q => by
    obtain ⟨ob, e, hc, n, r⟩ := q
    refine ⟨ob, kp b ob (fun q => ?_) e, hc, n, r⟩
    subst q; rw [hL] at e; cases e; rw [hd] at r; cases r
  have nσ : ∀ a o, σ a = some o → a ≠ c := fun a o e q => y.off a o e (q ▸ hown)
  have liveL : ∃ o', h'.get? c = some o' ∧ ∃ v, o'.data = .cell v := by obtain ⟨o', e', hd'⟩ := hn'; exact ⟨o', e', _, hd'⟩
  refine ⟨⟨⟨fun b ob e => kp b ob (fun q => ?_) (y.base b ob e), y.os, y.gens, fun a o e => ⟨(y.sig a o e).1, (y.sig a o e).2.at tk fun ob q => kp a ob (nσ a o e) q⟩, fun env he => ?_, y.offF⟩, ⟨?_, fun z d h1 => ?_, fun a ha => ?_⟩, y.off⟩, ⟨fun b ob e nd => ?_, fun b ob e => ?_, fun _ h => .inl h⟩⟩
  · rw [q, ok.new _ hown] at e; cases e
  · obtain ⟨h1, L, o₁, h2, h3, h4, h5⟩ := y.frames env he
    refine ⟨h1, L, o₁, h2, h3, kp L o₁ (fun q => ?_) h4, h5⟩
    subst q; rw [hL] at h4; cases h4; obtain ⟨_, _, h5⟩ := h5; rw [hd] at h5; cases h5
  · obtain ⟨m, hn, hx⟩ := y.fr.ns
    refine ⟨m, hn.sameBut hs (Ne.symm hcL), fun z q e => ?_⟩
    simp only [Loc.set] at e
    split at e
    · next h => subst h; cases e; exact .inr ⟨.inl hk, c, v, hc, hcL, hn', hv.mono tk⟩
    · next h =>
      rcases hx z q e with ⟨h1, u, h2, h3⟩ | ⟨h1, d, u, h2, h4, h5, h6⟩
      · exact .inl ⟨h1, u, h2, h3.mono tk⟩
      · exact .inr ⟨h1, d, u, h2, h4, h5.sameBut hs (fun q => h (ok.apart z x d h2 (q ▸ hc))), h6.mono tk⟩
  · by_cases q : d = c
    · exact ⟨_, q ▸ hn'⟩
    · obtain ⟨u, r⟩ := y.fr.cells z d h1; exact ⟨u, r.sameBut hs q⟩
  · by_cases q : a = c
    · obtain ⟨o', e', r⟩ := liveL; exact ⟨o', q ▸ e', .inr r⟩
    · obtain ⟨o, e, r⟩ := y.fr.own a ha; exact ⟨o, kp a o q e, r⟩
  · exact ⟨ob, kp b ob (fun q => nd (.inl (q ▸ hown))) e, .refl _ _ _⟩
  · by_cases q : b = c
    · obtain ⟨o', e', _⟩ := liveL; exact ⟨o', q ▸ e'⟩
    · exact ⟨ob, kp b ob q e⟩

/-- forget a part of what is known -/
theorem St.drop {ρ₀ : Loc} {σ₀ : Sig} (x : St C ρ σ s) (hρ : ∀ y p, ρ₀ y = some p → ρ y = some p) (hσ : ∀ a o, σ₀ a = some o → σ a = some o) : St C ρ₀ σ₀ s := by
  obtain ⟨m, hn, hx⟩ := x.fr.ns
  exact ⟨⟨x.base, x.os, x.gens, fun a o e => x.sig a o (hσ a o e), x.frames, fun a o e => x.offF a o (hσ a o e)⟩, ⟨⟨m, hn, fun y p e => hx y p (hρ y p e)⟩, x.fr.cells, x.fr.own⟩, fun a o e => x.off a o (hσ a o e)⟩
theorem Stp.dropL {own ro fs : List Addr} {σ₀ σ' : Sig} {s' : Shared} (hσ : ∀ a o, σ₀ a = some o → σ a = some o) (k : Stp own ro fs σ₀ s σ' s') : Stp own ro fs σ s σ' s' := by
  have hd : ∀ a, (σ₀ a).isSome → (σ a).isSome := fun a h => by obtain ⟨o, e⟩ := Option.isSome_iff_exists.mp h; rw [hσ a o e]; rfl
  exact ⟨fun a o e nd => k.kept a o e (fun h => nd (h.imp id fun h => ⟨hd a h.1, h.2⟩)), k.live, fun a h => (k.dom a h).imp (hd a) id⟩
theorem Stp.dropR {own ro fs : List Addr} {σ₀ σ' : Sig} {s' : Shared} (hσ : ∀ a o, σ₀ a = some o → σ' a = some o) (k : Stp own ro fs σ s σ' s') : Stp own ro fs σ s σ₀ s' :=
  ⟨k.kept, k.live, fun a h => k.dom a (by obtain ⟨o, e⟩ := Option.isSome_iff_exists.mp h; rw [hσ a o e]; rfl)⟩
end

/-- one signature says no more than another -/
def Sub (σ₀ σ : Sig) : Prop := ∀ a o, σ₀ a = some o → σ a = some o
theorem Sub.refl (σ : Sig) : Sub σ σ := fun _ _ e => e
theorem Sub.trans {a b c : Sig} (x : Sub a b) (y : Sub b c) : Sub a c := fun p o e => y p o (x p o e)
theorem Sub.set {σ : Sig} {a : Addr} {o : AO} (h : σ a = none) : Sub σ (σ.set a o) := fun b ob e => by
  simp only [Sig.set]; split
  · next q => subst q; rw [h] at e; cases e
  · exact e
theorem Sub.set_both {σ τ : Sig} {a : Addr} {o : AO} (h : Sub σ τ) : Sub (σ.set a o) (τ.set a o) := fun b ob e => by
  simp only [Sig.set] at e ⊢; split
  · next q => subst q; simpa using e
  · next q => simp only [q, if_false] at e; exact h b ob e
section
variable {C : Cx} {ρ : Loc} {σ : Sig} {X X' : String → Sig → Prop}

theorem Post.step {s s₁ : Shared} {σ₁ : Sig} {Q : PV → Sig → Prop} {v : Value} {s' : Shared} (k : Step C σ s σ₁ s₁) (x : Post C ρ σ₁ s₁ Q v s') : Post C ρ σ s Q v s' := by
  obtain ⟨p, σ', h1, h2, h3, h4⟩ := x; exact ⟨p, σ', h1, h2, k.trans h3, h4⟩
theorem PostS.step {s s₁ : Shared} {σ₁ : Sig} {Q : Fl → Loc → Sig → Prop} {f : Flow} {s' : Shared} (k : Step C σ s σ₁ s₁) (x : PostS C σ₁ s₁ Q f s') : PostS C σ s Q f s' := by
  obtain ⟨fl, ρ', σ', h1, h2, h3, h4⟩ := x; exact ⟨fl, ρ', σ', h1, h2, k.trans h3, h4⟩
theorem PostB.step {s s₁ : Shared} {σ₁ : Sig} {Q : Bool → Sig → Prop} {b : Bool} {s' : Shared} (k : Step C σ s σ₁ s₁) (x : PostB C ρ σ₁ s₁ Q b s') : PostB C ρ σ s Q b s' := by
  obtain ⟨σ', h1, h3, h4⟩ := x; exact ⟨σ', h1, k.trans h3, h4⟩

/-- a piece goes on from where another ended -/
theorem wp_on {α : Type} {M : Model} {t : Sem α} {s s₁ : Shared} {σ₁ : Sig} {P P' : α → Shared → Prop} (k : Step C σ s σ₁ s₁) (h : wpAny M C.A t P' (Exc C σ₁ s₁ X) s₁) (hP : ∀ v s', P' v s' → P v s') : wpAny M C.A t P (Exc C σ s X) s₁ :=
  wpAny_mono h hP fun _ _ e => e.step k

theorem Tr.mono {t : Sem Value} {Q Q' : PV → Sig → Prop} (h : Tr C t ρ σ Q X) (hQ : ∀ p σ', Q p σ' → Q' p σ') : Tr C t ρ σ Q' X := fun s x =>
  wpAny_mono (h s x) (fun v s' ⟨p, σ', h1, h2, h3, h4⟩ => ⟨p, σ', h1, h2, h3, hQ p σ' h4⟩) fun _ _ e => e
theorem TrS.mono {t : Sem Flow} {Q Q' : Fl → Loc → Sig → Prop} (h : TrS C t ρ σ Q X) (hQ : ∀ p ρ' σ', Q p ρ' σ' → Q' p ρ' σ') : TrS C t ρ σ Q' X := fun s x =>
  wpAny_mono (h s x) (fun v s' ⟨p, ρ', σ', h1, h2, h3, h4⟩ => ⟨p, ρ', σ', h1, h2, h3, hQ p ρ' σ' h4⟩) fun _ _ e => e
theorem Exc.dropL {σ₀ : Sig} {s s' : Shared} {e : Value} (hσ : Sub σ₀ σ) (x : Exc C σ₀ s X e s') : Exc C σ s X e s' := by
  obtain ⟨a, b, c, d, h1, h2, h3, h4, h5⟩ := x; exact ⟨a, b, c, d, h1, h2, h3, h4.dropL hσ, h5⟩
theorem TrS.drop {t : Sem Flow} {ρ₀ : Loc} {σ₀ : Sig} {Q : Fl → Loc → Sig → Prop} (h : TrS C t ρ₀ σ₀ Q X) (hρ : ∀ y p, ρ₀ y = some p → ρ y = some p) (hσ : Sub σ₀ σ) : TrS C t ρ σ Q X := fun s x =>
  wpAny_mono (h s (x.drop hρ hσ)) (fun _ _ ⟨p, ρ', σ', h1, h2, h3, h4⟩ => ⟨p, ρ', σ', h1, h2, h3.dropL hσ, h4⟩) fun _ _ e => e.dropL hσ
end
end SR

set_option maxRecDepth 100000
set_option linter.unusedVariables false
namespace SR
open PySem

section
variable {C : Cx} {ρ : Loc} {σ : Sig} {X : String → Sig → Prop}

theorem SameObj.ns {fs : List Addr} {a : Addr} {h h' : Heap} {m : Str → Option Value} (hn : h.Ns a m) (k : ∀ o, h.get? a = some o → ∃ o', h'.get? a = some o' ∧ SameObj fs a o o') : h'.Ns a m := by
  obtain ⟨o, es, ep, e, hd, r⟩ := hn
  obtain ⟨o', e', q⟩ := k o e
  exact ⟨o', es, ep, e', q.data.trans hd, r⟩

/-! ends that change nothing but the tokens -/
theorem Post.here {s : Shared} {Q : PV → Sig → Prop} {v : Value} {p : PV} (x : St C ρ σ s) (hv : VR s.heap v p) (h : Q p σ) : Post C ρ σ s Q v s := ⟨p, σ, hv, x, .refl _ _ _ _ _, h⟩
theorem Post.tok {s : Shared} {Q : PV → Sig → Prop} {v : Value} {p : PV} (x : St C ρ σ s) (t : Nat) (hv : VR s.heap v p) (h : Q p σ) : Post C ρ σ s Q v { s with toks := t } := ⟨p, σ, hv, x.tok t, Step.tok _ _ _ _, h⟩
theorem PostB.here {s : Shared} {Q : Bool → Sig → Prop} {b : Bool} (x : St C ρ σ s) (h : Q b σ) : PostB C ρ σ s Q b s := ⟨σ, x, .refl _ _ _ _ _, h⟩

/-! operations -/
structure OpUn (C : Cx) (op : UnaryOp) (a : PV) (ρ : Loc) (σ : Sig) (Q : PV → Sig → Prop) (X : String → Sig → Prop) : Prop where
  run : ∀ s v, St C ρ σ s → VR s.heap v a → wpAny (model C.S.prog C.S.w) C.A (unaryOp op v) (Post C ρ σ s Q) (Exc C σ s X) s
structure OpBin (C : Cx) (op : Operator) (a b : PV) (ρ : Loc) (σ : Sig) (Q : PV → Sig → Prop) (X : String → Sig → Prop) : Prop where
  run : ∀ s v u, St C ρ σ s → VR s.heap v a → VR s.heap u b → wpAny (model C.S.prog C.S.w) C.A (binaryOp op v u) (Post C ρ σ s Q) (Exc C σ s X) s
structure OpCmp (C : Cx) (op : CmpOp) (a b : PV) (ρ : Loc) (σ : Sig) (Q : PV → Sig → Prop) (X : String → Sig → Prop) : Prop where
  run : ∀ s v u, St C ρ σ s → VR s.heap v a → VR s.heap u b → wpAny (model C.S.prog C.S.w) C.A (compareOp op v u) (Post C ρ σ s Q) (Exc C σ s X) s
structure OpT (C : Cx) (a : PV) (ρ : Loc) (σ : Sig) (Q : Bool → Sig → Prop) (X : String → Sig → Prop) : Prop where
  run : ∀ s v, St C ρ σ s → VR s.heap v a → wpAny (model C.S.prog C.S.w) C.A (truthy v) (PostB C ρ σ s Q) (Exc C σ s X) s
structure OpN (C : Cx) (f : Value) (ps : List PV) (ρ : Loc) (σ : Sig) (Q : PV → Sig → Prop) (X : String → Sig → Prop) : Prop where
  run : ∀ s vs, St C ρ σ s → VRs s.heap vs ps → wpAny (model C.S.prog C.S.w) C.A (PySem.call f vs) (Post C ρ σ s Q) (Exc C σ s X) s

/-- a value's piece, then a use of it -/
theorem wp_use {α : Type} {t : Sem Value} {s : Shared} {Q₁ : PV → Sig → Prop} {P : Value → Shared → Prop} (h : wpAny (model C.S.prog C.S.w) C.A t (Post C ρ σ s Q₁) (Exc C σ s X) s)
    (hk : ∀ v s₁ p σ₁, VR s₁.heap v p → St C ρ σ₁ s₁ → Step C σ s σ₁ s₁ → TupKept s.heap s₁.heap → Q₁ p σ₁ → P v s₁) (x : St C ρ σ s) : wpAny (model C.S.prog C.S.w) C.A t P (Exc C σ s X) s :=
  wpAny_mono h (fun v s₁ ⟨p, σ₁, h1, h2, h3, h4⟩ => hk v s₁ p σ₁ h1 h2 h3 (x.tup h3.kept) h4) fun _ _ e => e

theorem Ev.binop {l r : Expr} {op : Operator} {pos : Pos} {Q : PV → Sig → Prop} (h : Ev C l ρ σ (fun a σ₁ => Ev C r ρ σ₁ (fun b σ₂ => OpBin C op a b ρ σ₂ Q X) X) X) : Ev C (.BinOp l op r pos) ρ σ Q X := by
  refine ⟨fun s x => ?_⟩
  refine wpAny_BinOp (wp_use (α := Unit) (h.run s x) (fun va s₁ a σ₁ ra x₁ k₁ t₁ h₁ => ?_) x)
  refine wp_on k₁ (wp_use (α := Unit) (h₁.run s₁ x₁) (fun vb s₂ b σ₂ rb x₂ k₂ t₂ h₂ => ?_) x₁) fun _ _ p => p
  exact wp_on (k₁.trans k₂) (h₂.run s₂ va vb x₂ (ra.mono t₂) rb) fun _ _ p => p.step (k₁.trans k₂)
theorem Ev.unary {e : Expr} {op : UnaryOp} {pos : Pos} {Q : PV → Sig → Prop} (h : Ev C e ρ σ (fun a σ₁ => OpUn C op a ρ σ₁ Q X) X) : Ev C (.UnaryOp op e pos) ρ σ Q X := by
  refine ⟨fun s x => ?_⟩
  refine wpAny_UnaryOp (wp_use (α := Unit) (h.run s x) (fun va s₁ a σ₁ ra x₁ k₁ t₁ h₁ => ?_) x)
  exact wp_on k₁ (h₁.run s₁ va x₁ ra) fun _ _ p => p.step k₁

/-! tests -/
theorem Te.compare {l r : Expr} {op : CmpOp} {pos : Pos} {Q : Bool → Sig → Prop} (h : Ev C l ρ σ (fun a σ₁ => Ev C r ρ σ₁ (fun b σ₂ => OpCmp C op a b ρ σ₂ (fun c σ₃ => OpT C c ρ σ₃ Q X) X) X) X) (hm : behindInMarks op r = false := by rfl) : Te C (.Compare l [op] [r] pos) ρ σ Q X := by
  refine ⟨fun s x => ?_⟩
  refine wpAny_isTrue_Compare1 (wp_use (α := Unit) (h.run s x) (fun va s₁ a σ₁ ra x₁ k₁ t₁ h₁ => ?_) x) hm
  refine wp_on k₁ (wp_use (α := Unit) (h₁.run s₁ x₁) (fun vb s₂ b σ₂ rb x₂ k₂ t₂ h₂ => ?_) x₁) fun _ _ p => p
  refine wp_on (k₁.trans k₂) (wp_use (α := Unit) (h₂.run s₂ va vb x₂ (ra.mono t₂) rb) (fun vc s₃ c σ₃ rc x₃ k₃ t₃ h₃ => ?_) x₂) fun _ _ p => p
  exact wp_on ((k₁.trans k₂).trans k₃) (h₃.run s₃ vc x₃ rc) fun _ _ p => p.step ((k₁.trans k₂).trans k₃)
theorem Te.and {e : Expr} {rest : List Expr} {pos : Pos} {Q : Bool → Sig → Prop} (h : Te C e ρ σ (fun b σ₁ => if b then Te C (.BoolOp .And rest pos) ρ σ₁ Q X else Q false σ₁) X) : Te C (.BoolOp .And (e :: rest) pos) ρ σ Q X := by
  refine ⟨fun s x => ?_⟩
  refine PyProof.Rows.isTrue_and (wpAny_mono (h.run s x) (fun b s₁ ⟨σ₁, h1, h2, h3⟩ => ?_) fun _ _ e => e)
  cases b with
  | false => exact ⟨σ₁, h1, h2, h3⟩
  | true => exact wp_on h2 (h3.run s₁ h1) fun _ _ p => p.step h2
theorem Ev.ifexp {t a b : Expr} {pos : Pos} {Q : PV → Sig → Prop} (h : Te C t ρ σ (fun c σ₁ => if c then Ev C a ρ σ₁ Q X else Ev C b ρ σ₁ Q X) X) : Ev C (.IfExp t a b pos) ρ σ Q X := by
  refine ⟨fun s x => ?_⟩
  refine PyProof.Rows.IfExp_ (wpAny_mono (h.run s x) (fun c s₁ ⟨σ₁, h1, h2, h3⟩ => ?_) fun _ _ e => e)
  cases c with
  | true => exact wp_on h2 (h3.run s₁ h1) fun _ _ p => p.step h2
  | false => exact wp_on h2 (h3.run s₁ h1) fun _ _ p => p.step h2

/-! constants, names -/
theorem Ev.cint {i : Int} {k : Nat} {pos : Pos} {Q : PV → Sig → Prop} (h : Q (.int i) σ) : Ev C (.Constant (.int i) k pos) ρ σ Q X := ⟨fun s x => wpAny_Constant_int (.tok x _ (.int _ _) h)⟩
theorem Ev.cstr {y : Str} {k : Nat} {pos : Pos} {Q : PV → Sig → Prop} (h : Q (.str y) σ) : Ev C (.Constant (.str y) k pos) ρ σ Q X := ⟨fun s x => wpAny_Constant_str (.tok x _ (.str _ _) h)⟩
theorem Ev.cnone {k : Nat} {pos : Pos} {Q : PV → Sig → Prop} (h : Q .none σ) : Ev C (.Constant .none k pos) ρ σ Q X := ⟨fun s x => wpAny_Constant_none (.here x .none h)⟩
theorem Ev.cbool {b : Bool} {k : Nat} {pos : Pos} {Q : PV → Sig → Prop} (h : Q (.bool b) σ) : Ev C (.Constant (.bool b) k pos) ρ σ Q X := ⟨fun s x => wpAny_Constant_bool (.here x (.bool _) h)⟩
theorem Ev.name {y : Str} {pos : Pos} {p : PV} {Q : PV → Sig → Prop} (ok : C.Ok) (hy : ρ y = some p) (h : Q p σ) (hd : (y == ("__debug__" : Str)) = false := by decide) : Ev C (.Name y pos) ρ σ Q X := by
  refine ⟨fun s x => ?_⟩
  obtain ⟨m, hn, hx⟩ := x.fr.ns
  refine wpAny_Name ?_ hd
  rcases hx y p hy with ⟨h1, v, h2, h3⟩ | ⟨h1, c, v, h2, h4, h5, h6⟩
  · exact wpAny_loadName_local ok.kind h1 hn h2 (.here x h3 h)
  · rcases h1 with h1 | ⟨h1, h7⟩
    · exact wpAny_loadName_cell ok.kind h1 h2 h5 (.here x h6 h)
    · exact wpAny_loadName_free ok.kind h1 h2 h5 (.here x h6 h) h7
/-- a name of the module's -/
theorem Ev.global {y : Str} {pos : Pos} {v : Value} {p : PV} {Q : PV → Sig → Prop} (ok : C.Ok) (hk : C.kd y = some .globalImplicit) (hg : C.S.mg y = some v) (hv : VR C.S.base v p) (h : Q p σ) (hd : (y == ("__debug__" : Str)) = false := by decide) : Ev C (.Name y pos) ρ σ Q X := by
  refine ⟨fun s x => ?_⟩
  refine Calls.Name_function_global ok.kind (ok.kinds y _ hk) (Calls.loadGlobal_global (mg := C.S.mg) ?_ hg (.here x (hv.mono (.of_ext x.base)) h)) hd
  rw [ok.globals]; exact ok.S.g.keeps x.base
theorem wp_builtin {y : Str} {pos : Pos} {v : Value} {s : Shared} {P : Value → Shared → Prop} {E : Value → Shared → Prop} (ok : C.Ok) (x : St C ρ σ s) (hk : C.kd y = some .globalImplicit) (hg : C.S.mg y = Option.none) (hb : C.S.mb y = some v) (h : P v s) (hd : (y == ("__debug__" : Str)) = false := by decide) :
    wpAny (model C.S.prog C.S.w) C.A (eval (.Name y pos) C.env) P E s := by
  refine Calls.Name_function_global ok.kind (ok.kinds y _ hk) (Calls.loadGlobal_builtin (mg := C.S.mg) (mb := C.S.mb) ?_ hg ?_ hb h) hd
  · rw [ok.globals]; exact ok.S.g.keeps x.base
  · rw [ok.builtins]; exact ok.S.b.keeps x.base
theorem wp_global {y : Str} {pos : Pos} {v : Value} {s : Shared} {P : Value → Shared → Prop} {E : Value → Shared → Prop} (ok : C.Ok) (x : St C ρ σ s) (hk : C.kd y = some .globalImplicit) (hg : C.S.mg y = some v) (h : P v s) (hd : (y == ("__debug__" : Str)) = false := by decide) :
    wpAny (model C.S.prog C.S.w) C.A (eval (.Name y pos) C.env) P E s := by
  refine Calls.Name_function_global ok.kind (ok.kinds y _ hk) (Calls.loadGlobal_global (mg := C.S.mg) ?_ hg h) hd
  rw [ok.globals]; exact ok.S.g.keeps x.base
/-! statements -/
theorem Exs.nil {Q : Fl → Loc → Sig → Prop} (h : Q .next ρ σ) : Exs C [] ρ σ Q X := ⟨fun s x => wpAny_execs_nil ⟨.next, ρ, σ, trivial, x, .refl _ _ _ _ _, h⟩⟩
theorem Exs.cons {st : Stmt} {rest : List Stmt} {Q : Fl → Loc → Sig → Prop} (h : Ex C st ρ σ (fun fl ρ₁ σ₁ => match fl with | .next => Exs C rest ρ₁ σ₁ Q X | fl => Q fl ρ₁ σ₁) X) : Exs C (st :: rest) ρ σ Q X := by
  refine ⟨fun s x => ?_⟩
  refine wpAny_execs_cons (wpAny_mono (h.run s x) (fun f s₁ ⟨fl, ρ₁, σ₁, h1, h2, h3, h4⟩ => ?_) fun _ _ e => e)
  cases fl with
  | next =>
    cases f with
    | next => exact wp_on h3 (h4.run s₁ h2) fun _ _ p => p.step h3
    | _ => exact h1.elim
  | brk =>
    cases f with
    | brk => exact ⟨.brk, ρ₁, σ₁, trivial, h2, h3, h4⟩
    | _ => exact h1.elim
  | cont =>
    cases f with
    | cont => exact ⟨.cont, ρ₁, σ₁, trivial, h2, h3, h4⟩
    | _ => exact h1.elim
  | ret p =>
    cases f with
    | ret v => exact ⟨.ret p, ρ₁, σ₁, h1, h2, h3, h4⟩
    | _ => exact h1.elim
theorem Ex.if {t : Expr} {a b : List Stmt} {pos : Pos} {Q : Fl → Loc → Sig → Prop} (h : Te C t ρ σ (fun c σ₁ => if c then Exs C a ρ σ₁ Q X else Exs C b ρ σ₁ Q X) X) : Ex C (.If t a b pos) ρ σ Q X := by
  refine ⟨fun s x => ?_⟩
  refine wpAny_If (wpAny_mono (h.run s x) (fun c s₁ ⟨σ₁, h1, h2, h3⟩ => ?_) fun _ _ e => e)
  cases c with
  | true => exact wp_on h2 (h3.run s₁ h1) fun _ _ p => p.step h2
  | false => exact wp_on h2 (h3.run s₁ h1) fun _ _ p => p.step h2
theorem Ex.ret {e : Expr} {pos : Pos} {Q : Fl → Loc → Sig → Prop} (h : Ev C e ρ σ (fun p σ₁ => Q (.ret p) ρ σ₁) X) : Ex C (.Return (some e) pos) ρ σ Q X := by
  refine ⟨fun s x => ?_⟩
  exact wpAny_Return_some (wpAny_mono (h.run s x) (fun v s₁ ⟨p, σ₁, h1, h2, h3, h4⟩ => ⟨.ret p, ρ, σ₁, h1, h2, h3, h4⟩) fun _ _ e => e)
def PV.isRef : PV → Bool
  | .ref _ | .tup _ => true
  | _ => false
theorem Ex.expr {e : Expr} {pos : Pos} {Q : Fl → Loc → Sig → Prop} (ok : C.Ok) (h : Ev C e ρ σ (fun p σ₁ => p.isRef = false ∧ Q .next ρ σ₁) X) (hc : swapsWith e Option.none pos.line C.env = pure false := by rfl) : Ex C (.Expr e pos) ρ σ Q X := by
  refine ⟨fun s x => ?_⟩
  refine wpAny_Expr (wpAny_mono (h.run s x) (fun v s₁ ⟨p, σ₁, h1, h2, h3, h4, h5⟩ => ?_) fun _ _ e => e) (by simp [interactive, ok.kind]) hc
  have fin : PostS C σ s Q .next s₁ := ⟨.next, ρ, σ₁, trivial, h2, h3, h5⟩
  cases h1 <;> first | exact fin | cases h4

/-- storing a name -/
theorem wp_store {y : Str} {v : Value} {p : PV} {s : Shared} {P : Unit → Shared → Prop} {E : Value → Shared → Prop} (ok : C.Ok) (x : St C ρ σ s) (hv : VR s.heap v p) (hk : C.kd y = some .local ∨ (C.kd y = some .cell ∧ (C.env.cells.lookup y).isSome))
    (h : ∀ s', St C (ρ.set y p) σ s' → Step C σ s σ s' → P () s') : wpAny (model C.S.prog C.S.w) C.A (storeName C.env y v) P E s := by
  obtain ⟨m, hn, hx⟩ := x.fr.ns
  rcases hk with hk | ⟨hk, hs⟩
  · refine wpAny_storeName_local (ok.kinds y _ hk) hn (fun h' hn' hs' => ?_) (by rw [ok.kind]; rfl)
    obtain ⟨a, b⟩ := x.store (t := s.toks + 1) ok hn hx (ok.kinds y _ hk) hv hn' hs'
    exact h _ a b
  · obtain ⟨c, hc⟩ := Option.isSome_iff_exists.mp hs
    obtain ⟨v₀, hv₀⟩ := x.fr.cells y c hc
    refine wpAny_storeName_cell ok.kind (ok.kinds y _ hk) hc hv₀ fun h' hn' hs' => ?_
    obtain ⟨a, b⟩ := x.storeC (t := s.toks) ok (ok.kinds y _ hk) hk hc hv hn' hs'
    exact h _ a b
def Stores (C : Cx) (y : Str) : Prop := C.kd y = some .local ∨ (C.kd y = some .cell ∧ (C.env.cells.lookup y).isSome)
theorem Ex.assign {y : Str} {e : Expr} {p' pos : Pos} {Q : Fl → Loc → Sig → Prop} (ok : C.Ok) (hk : Stores C y) (h : Ev C e ρ σ (fun p σ₁ => Q .next (ρ.set y p) σ₁) X) (hc : swapsWith e (some (.Name y p')) pos.line C.env = pure false := by rfl) : Ex C (.Assign [.Name y p'] e pos) ρ σ Q X := by
  refine ⟨fun s x => ?_⟩
  refine wpAny_Assign_Name (wp_use (α := Unit) (h.run s x) (fun v s₁ p σ₁ r x₁ k₁ t₁ h₁ => ?_) x) hc
  exact wp_store ok x₁ r hk fun s' x' k' => ⟨.next, _, σ₁, trivial, x', k₁.trans k', h₁⟩
end
end SR

set_option maxRecDepth 100000
set_option linter.unusedVariables false
namespace SR
open PySem

section
variable {C : Cx} {ρ : Loc} {σ : Sig} {X : String → Sig → Prop}

def PostL (C : Cx) (ρ : Loc) (σ : Sig) (s : Shared) (Q : List PV → Sig → Prop) (vs : List Value) (s' : Shared) : Prop :=
  ∃ ps σ', VRs s'.heap vs ps ∧ St C ρ σ' s' ∧ Step C σ s σ' s' ∧ Q ps σ'
def TrL (C : Cx) (ts : List (Bool × Sem Value)) (ρ : Loc) (σ : Sig) (Q : List PV → Sig → Prop) (X : String → Sig → Prop) : Prop :=
  ∀ s, St C ρ σ s → wpAny (model C.S.prog C.S.w) C.A (spliced ts) (PostL C ρ σ s Q) (Exc C σ s X) s
/-- the arguments of a call, the items of a display -/
structure Evs (C : Cx) (es : List Expr) (ρ : Loc) (σ : Sig) (Q : List PV → Sig → Prop) (X : String → Sig → Prop := noX) : Prop where
  run : ∀ pos, TrL C (backTo pos (starEach es C.env)) ρ σ Q X
def noStar : Expr → Bool
  | .Starred .. => false
  | _ => true
theorem starEach_cons {e : Expr} (rest : List Expr) (env : Env) (h : noStar e = true) : starEach (e :: rest) env = (false, eval e env) :: starEach rest env := by
  cases e <;> first | rfl | cases h
theorem Evs.nil {Q : List PV → Sig → Prop} (h : Q [] σ) : Evs C [] ρ σ Q X := ⟨fun pos s x => Calls.spliced_nil ⟨[], σ, .nil, x, .refl _ _ _ _ _, h⟩⟩
theorem Evs.cons {e : Expr} {rest : List Expr} {Q : List PV → Sig → Prop} (h : Ev C e ρ σ (fun p σ₁ => Evs C rest ρ σ₁ (fun ps σ₂ => Q (p :: ps) σ₂) X) X) (hs : noStar e = true := by rfl) : Evs C (e :: rest) ρ σ Q X := by
  refine ⟨fun pos s x => ?_⟩
  rw [starEach_cons rest C.env hs]
  show wpAny _ _ (spliced ((false, eval e C.env) :: backTo pos (starEach rest C.env))) _ _ s
  refine Calls.spliced_cons (wp_use (α := Unit) (h.run s x) (fun v s₁ p σ₁ r x₁ k₁ t₁ h₁ => ?_) x)
  refine wp_on k₁ (h₁.run pos s₁ x₁) fun vs s₂ ⟨ps, σ₂, rs, x₂, k₂, h₂⟩ => ?_
  exact ⟨p :: ps, σ₂, .cons (r.mono (x₁.tup k₂.kept)) rs, x₂, k₁.trans k₂, h₂⟩

/-- arguments without stars -/
theorem starEach_plain : ∀ (es : List Expr) (env : Env) (pos : Pos), es.all noStar = true → ∀ x ∈ backTo pos (starEach es env), x.1 = false
  | [], _, _, _, x, h => by cases h
  | e :: r, env, pos, h, x, hx => by
    rw [List.all_cons, Bool.and_eq_true] at h
    rw [starEach_cons r env h.1] at hx
    rcases List.mem_cons.mp hx with rfl | hx
    · rfl
    · exact starEach_plain r env pos h.2 x hx
theorem evalArgs_all {M : Model} {A : Around} {E : Value → Shared → Prop} {s : Shared} {f : Value} {ts : List (Bool × Sem Value)} {Q : Args → Shared → Prop} (hp : ∀ x ∈ ts, x.1 = false)
    (h : wpAny M A (spliced ts) (fun vs s' => Q ⟨vs, []⟩ s') E s) : wpAny M A (evalArgs f true ts []) Q E s := by
  cases ts with
  | nil =>
    unfold evalArgs
    refine wpAny_bind (wpAny_mono h (fun vs s' q => wpAny_bind (wpAny_pure (wpAny_holding ?_))) fun _ _ e => e)
    simp only [List.all_nil, if_true]
    exact wpAny_bind (wpAny_pure (wpAny_bind (wpAny_pure (wpAny_pure q))))
  | cons t r =>
    obtain ⟨b, x⟩ := t
    obtain rfl : b = false := hp _ List.mem_cons_self
    exact Calls.evalArgs_plain h

/-! a def is called -/
def FnPost (S : Sx) (frs : List Env) (ro : List Addr) (σ : Sig) (s : Shared) (Q : PV → Sig → Prop) (r : Result) (s' : Shared) : Prop :=
  ∃ v p σ', r = .ok (.ret v) ∧ VR s'.heap v p ∧ GSt S frs σ' s' ∧ Stp [] ro (fsOf frs) σ s σ' s' ∧ Q p σ'
/-- room for a call at this depth -/
structure Room (A : Around) (frs : List Env) (room : Nat) : Prop where
  hh : A.handled = none
  depth : A.depth + room < recursionLimit
  units : A.units + 8 * room + 8 < cLine
  frames : A.frames = some frs
def Fn (S : Sx) (fa : Addr) (ro : List Addr) (room : Nat) (ps : List PV) (σ : Sig) (Q : PV → Sig → Prop) : Prop :=
  ∀ (A : Around) (frs : List Env) (s : Shared) (vs : List Value), Room A frs room → GSt S frs σ s → VRs s.heap vs ps →
    codeAny (model S.prog S.w) A (.call (.ref fa) ⟨vs, []⟩) (FnPost S frs ro σ s Q) s

theorem Fn.mono {S : Sx} {fa : Addr} {ro : List Addr} {room : Nat} {ps : List PV} {Q Q' : PV → Sig → Prop} (h : Fn S fa ro room ps σ Q) (hQ : ∀ p σ', Q p σ' → Q' p σ') : Fn S fa ro room ps σ Q' := fun A frs s vs r g v =>
  codeAny_mono (h A frs s vs r g v) fun _ _ ⟨v, p, σ', h1, h2, h3, h4, h5⟩ => ⟨v, p, σ', h1, h2, h3, h4, hQ _ _ h5⟩

theorem Cx.Ok.room' {C : Cx} (ok : C.Ok) : Room C.A C.frs C.room := ⟨ok.hh, ok.depth, ok.units, ok.frames⟩

theorem St.call {σ' : Sig} {s s' : Shared} (x : St C ρ σ s) (ok : C.Ok) (g : GSt C.S C.frs σ' s') (k : Stp [] C.ro (fsOf C.frs) σ s σ' s') : St C ρ σ' s' ∧ Step C σ s σ' s' := by
  have k' : Step C σ s σ' s' := ⟨fun a o e nd => k.kept a o e fun h => nd (h.elim (fun h => nomatch h) .inr), k.live, k.dom⟩
  have tk := x.tup k'.kept
  have own : ∀ a o, a ∈ C.own → s.heap.get? a = some o → ∃ o', s'.heap.get? a = some o' ∧ SameObj (fsOf C.frs) a o o' := fun a o ha e => k.kept a o e (by
    rintro (h | ⟨h, _⟩)
    · cases h
    · obtain ⟨ao, h⟩ := Option.isSome_iff_exists.mp h; exact x.off a ao h ha)
  have cellk : ∀ c v, s.heap.IsCell c v → s'.heap.IsCell c v := fun c v ⟨o, e, hd⟩ => by
    obtain ⟨o', e', q⟩ := k.kept c o e (by
      rintro (h | ⟨h, _⟩)
      · cases h
      · obtain ⟨ao, h⟩ := Option.isSome_iff_exists.mp h
        obtain ⟨o₁, e₁, _, hc⟩ := (x.sig c ao h).2.there
        rw [e] at e₁; cases e₁; exact hc v hd)
    exact ⟨o', e', q.data.trans hd⟩
  refine ⟨⟨g, ⟨?_, fun y c h1 => ?_, fun a ha => ?_⟩, fun a o e ha => ?_⟩, k'⟩
  · obtain ⟨m, hn, hx⟩ := x.fr.ns
    exact ⟨m, SameObj.ns hn fun o e => own _ o ok.loc e, fun y p e => (hx y p e).at tk fun c v _ => cellk c v⟩
  · obtain ⟨v, q⟩ := x.fr.cells y c h1; exact ⟨v, cellk c v q⟩
  · obtain ⟨o, e, r⟩ := x.fr.own a ha
    obtain ⟨o', e', q⟩ := own a o ha e
    exact ⟨o', e', r.imp (fun ⟨es, ep, h⟩ => ⟨es, ep, q.data.trans h⟩) fun ⟨v, h⟩ => ⟨v, q.data.trans h⟩⟩
  · rcases k.dom a (by rw [e]; rfl) with h | h
    · obtain ⟨ao, h⟩ := Option.isSome_iff_exists.mp h; exact x.off a ao h ha
    · exact x.fresh_own h ha

/-- a def that stands in the module -/
structure IsFn (S : Sx) (f : Str) (fa : Addr) (fd : FuncData) : Prop where
  glob : S.mg f = some (.ref fa)
  there : ∃ o, S.base.get? fa = some o ∧ o.data = .func fd
  code : S.base.CodeRec fd.code fd.qualname

theorem Ev.call {f : Str} {fa : Addr} {fd : FuncData} {np pos : Pos} {args : List Expr} {Q : PV → Sig → Prop} (ok : C.Ok) (hf : IsFn C.S f fa fd) (hk : C.kd f = some .globalImplicit) (h : Evs C args ρ σ (fun ps σ₁ => Fn C.S fa C.ro C.room ps σ₁ Q) X)
    (hs : args.all noStar = true := by rfl) (hd : (f == ("__debug__" : Str)) = false := by decide) : Ev C (.Call (.Name f np) args [] pos) ρ σ Q X := by
  refine ⟨fun s x => ?_⟩
  refine wpAny_Call_ofName (wp_global ok x hk hf.glob ?_ hd)
  obtain ⟨o, ho, hdat⟩ := hf.there
  refine Calls.callWith_function (o := o) (fd := fd) (evalArgs_all (starEach_plain args C.env pos hs) ?_)
  refine wpAny_mono (h.run pos s x) (fun vs s₁ ⟨ps, σ₁, r, x₁, k₁, h₁⟩ => ⟨⟨x₁.base _ _ ho, hdat⟩, ?_⟩) fun _ _ e => e
  refine wpAny_call (codeAny_mono (h₁ C.A C.frs s₁ vs ok.room' x₁.toGSt r) ?_)
  rintro r' s' ⟨v, p, σ', rfl, hv, g, k, hq⟩
  obtain ⟨x', k'⟩ := x₁.call ok g k
  exact ⟨p, σ', hv, x', k₁.trans k', hq⟩

/-- the callee's frame -/
def calleeEnv (fd : FuncData) (L fa : Addr) : Env := newEnv fd.scope L fd.globals (cellsFrom (L + 1) fd.scope.names []) (fd.qualname ++ ".<locals>.") (some fa) fd.code Option.none fd.builtins
def calleeCx (S : Sx) (fd : FuncData) (ro : List Addr) (room : Nat) (A : Around) (frs : List Env) (L fa : Addr) : Cx where
  S := S
  kd := fun x => fd.scope.names.lookup x
  ro := ro
  room := room
  A := A.deeper (calleeEnv fd L fa)
  env := calleeEnv fd L fa
  own := L :: (calleeEnv fd L fa).cells.map (·.2)
  frs := calleeEnv fd L fa :: frs

def Loc.bind (ρ : Loc) : List (Str × PV) → Loc
  | [] => ρ
  | (x, p) :: r => Loc.bind (ρ.set x p) r
def Loc.nil : Loc := fun _ => Option.none

theorem bind_rep {h : Heap} {kindOf : Str → Option NameKind} : ∀ (xs : List Str) (vs : List Value) (ps : List PV) (m cm : Str → Option Value) (ρ : Loc), VRs h vs ps →
    (∀ y p, ρ y = some p → (kindOf y = some .local ∧ ∃ v, m y = some v ∧ VR h v p) ∨ (kindOf y ≠ some .local ∧ ∃ v, cm y = some v ∧ VR h v p)) →
    ∀ y p, ρ.bind (xs.zip ps) y = some p → (kindOf y = some .local ∧ ∃ v, bindL kindOf (xs.zip vs) m y = some v ∧ VR h v p) ∨ (kindOf y ≠ some .local ∧ ∃ v, bindC kindOf (xs.zip vs) cm y = some v ∧ VR h v p)
  | [], vs, ps, m, cm, ρ, _, hρ => by simpa [Loc.bind, bindL, bindC] using hρ
  | x :: xs, _, _, m, cm, ρ, .nil, hρ => by simpa [Loc.bind, bindL, bindC] using hρ
  | x :: xs, v :: vs, p :: ps, m, cm, ρ, .cons e r, hρ => by
    simp only [List.zip_cons_cons, Loc.bind, bindL, bindC]
    refine bind_rep xs vs ps _ _ _ r fun y q hy => ?_
    simp only [Loc.set] at hy
    by_cases hx : kindOf x = some .local
    · simp only [hx, if_true]
      split at hy
      · next h => subst h; cases hy; exact .inl ⟨hx, v, by simp, e⟩
      · next h => simpa [h] using hρ y q hy
    · simp only [hx, if_false]
      split at hy
      · next h => subst h; cases hy; exact .inr ⟨hx, v, by simp, e⟩
      · next h => simpa [h] using hρ y q hy

theorem bind_dom {xs : List Str} : ∀ {ps : List PV} {ρ : Loc} {y : Str} {p : PV}, ρ.bind (xs.zip ps) y = some p → y ∈ xs ∨ ρ y = some p := by
  induction xs with
  | nil => intro ps ρ y p h; exact .inr h
  | cons x xs ih =>
    intro ps ρ y p h
    cases ps with
    | nil => exact .inr h
    | cons q ps =>
      rcases ih h with h | h
      · exact .inl (List.mem_cons_of_mem _ h)
      · simp only [Loc.set] at h
        split at h
        · next e => subst e; exact .inl List.mem_cons_self
        · exact .inr h

theorem Fn.body {S : Sx} {f : Str} {fa : Addr} {fd : FuncData} {body : List Stmt} {xs : List Str} {ro : List Addr} {room : Nat} {ps : List PV} {Q : PV → Sig → Prop} (oS : S.Ok) (hf : IsFn S f fa fd) (hb : fd.body = .stmts body) (hcl : fd.closure = [])
    (hg : fd.globals = mainGlobals) (hbt : fd.builtins = builtinsNs) (hlen : ps.length = xs.length) (hbind : ∀ vs : List Value, vs.length = xs.length → bindArgs fd ⟨vs, []⟩ = pure (xs.zip vs))
    (hx : (xs.all fun x => fd.scope.names.lookup x == some .local || fd.scope.names.lookup x == some .cell) = true)
    (hnd : ((cellsFrom 0 fd.scope.names []).map (·.1)).Nodup)
    (hk : fd.scope.kind = .function) (hco : fd.scope.isCoroutine = false) (hgen : fd.scope.isGenerator = false)
    (h : ∀ A frs L, (calleeCx S fd ro room A frs L fa).Ok → Exs (calleeCx S fd ro room A frs L fa) body (Loc.nil.bind (xs.zip ps)) σ (fun fl _ σ' => Q (match fl with | .ret p => p | _ => .none) σ') noX) :
    Fn S fa ro (room + 1) ps σ Q := by
  intro A frs s vs rm g hv
  obtain ⟨o, ho, hdat⟩ := hf.there
  have hvl : vs.length = xs.length := hv.length.trans hlen
  refine codeAny_call_function (by have := rm.depth; omega) (g.base _ _ ho) hdat hco hgen hb (hf.code.keeps g.base) ?_
  rw [hbind vs hvl]
  refine wpAny_pure ?_
  rw [hcl]
  have hkinds : ∀ n, ∀ x ∈ xs.zip vs, fd.scope.names.lookup x.1 = some .local ∨ (fd.scope.names.lookup x.1 = some .cell ∧ ((cellsFrom n fd.scope.names []).lookup x.1).isSome = true) := fun n x hxm => by
    have h1 := List.all_eq_true.mp hx x.1 (List.of_mem_zip hxm).1
    rcases Bool.or_eq_true_iff.mp h1 with q | q
    · exact .inl (by simpa using q)
    · have q' : fd.scope.names.lookup x.1 = some .cell := by simpa using q
      exact .inr ⟨q', PySem.W.cellsFrom_some _ _ _ (.inl q')⟩
  refine wpAny_newFunctionEnv_cells hk (hkinds _) fun env he s₁ ic => ?_
  have he' : env = calleeEnv fd s.heap.objs.size fa := he
  refine ⟨(oS.nolimit.keeps g.base).keeps ic.toInCall.keep, codeAny_func ?_⟩
  have hL : env.locals = s.heap.objs.size := by rw [he]; rfl
  have hcells : env.cells = cellsFrom (s.heap.objs.size + 1) fd.scope.names [] := by rw [he]; rfl
  obtain ⟨h₁, tk, hs₁, keep⟩ := ic.done
  subst he'
  have g₁ : GSt S frs σ s₁ := by rw [hs₁]; exact g.ext keep
  have freshL : s.heap.get? s.heap.objs.size = Option.none := by
    cases q : s.heap.get? s.heap.objs.size with
    | none => rfl
    | some o' => exact absurd (Heap.lt_size q) (Nat.lt_irrefl _)
  have freshC : ∀ c ∈ (calleeEnv fd s.heap.objs.size fa).cells.map (·.2), s.heap.get? c = Option.none ∧ s.heap.objs.size < c := fun c hc => by
    obtain ⟨⟨n, c'⟩, hm, rfl⟩ := List.mem_map.mp hc
    have := ic.above n c' hm
    rw [hL] at this
    refine ⟨?_, this⟩
    cases q : s.heap.get? c' with
    | none => rfl
    | some o' => exact absurd (Nat.lt_trans (Heap.lt_size q) this) (Nat.lt_irrefl _)
  have freshO : ∀ a ∈ (calleeCx S fd ro room A frs s.heap.objs.size fa).own, s.heap.get? a = Option.none := fun a ha => by
    rcases List.mem_cons.mp ha with rfl | ha
    · exact freshL
    · exact (freshC a ha).1
  have ok : (calleeCx S fd ro room A frs s.heap.objs.size fa).Ok := by
    refine ⟨oS, rm.hh, by show A.depth + 1 + room < _; have := rm.depth; omega, by show A.units + 3 + 8 * room + 8 < _; have := rm.units; omega, hk, hg, hbt, fun x k e => e, List.mem_cons_self, fun x c e _ => ⟨List.mem_cons_of_mem _ (List.mem_map.mpr ⟨(x, c), mem_of_lookup e, rfl⟩), fun q => ?_⟩,
      fun x y c h1 h2 => name_of_addr ic.apart (mem_of_lookup h1) (mem_of_lookup h2), fun a ha => g.fresh_base (freshO a ha), by show (A.frames.map (_ :: ·)) = _; rw [rm.frames]; rfl⟩
    have := ic.above x c (mem_of_lookup e)
    exact absurd (q ▸ this) (Nat.lt_irrefl _)
  have st : St (calleeCx S fd ro room A frs s.heap.objs.size fa) (Loc.nil.bind (xs.zip ps)) σ s₁ := by
    have tk : TupKept s.heap s₁.heap := .of_ext ic.toInCall.keep
    obtain ⟨oL, esL, epL, eL, dL, _⟩ := id ic.toInCall.ns
    refine ⟨⟨g₁.base, g₁.os, g₁.gens, g₁.sig, fun env' hm => ?_, fun a ao e => ?_⟩, ⟨⟨_, ic.toInCall.ns, fun y p e => ?_⟩, fun y c h1 => ⟨_, ic.cell y c h1⟩, fun a ha => ?_⟩, fun a ao e ha => ?_⟩
    · rcases List.mem_cons.mp hm with rfl | hm
      · exact ⟨by show fd.scope.kind ≠ _; rw [hk]; decide, s.heap.objs.size, oL, rfl, g.fresh_base freshL, eL, esL, epL, dL⟩
      · exact g₁.frames env' hm
    · intro hm
      rcases List.mem_cons.mp hm with q | hm
      · obtain ⟨ob, q', _⟩ := (g.sig a ao e).2.there; rw [q, freshL] at q'; cases q'
      · exact g.offF a ao e hm
    · rcases bind_rep (kindOf := (calleeEnv fd s.heap.objs.size fa).kindOf) xs vs ps (fun _ => Option.none) (fun _ => Option.none) Loc.nil (hv.mono tk) (fun y p e => nomatch e) y p e with ⟨h1, v, h2, h3⟩ | ⟨h1, v, h2, h3⟩
      · exact .inl ⟨h1, v, h2, h3⟩
      · rcases bind_dom e with hm | hm
        · have hkx := List.all_eq_true.mp hx y hm
          rcases Bool.or_eq_true_iff.mp hkx with q | q
          · have q' : fd.scope.names.lookup y = some .local := by simpa using q
            exact (h1 q').elim
          · have q' : fd.scope.names.lookup y = some .cell := by simpa using q
            obtain ⟨c, hc⟩ := Option.isSome_iff_exists.mp (PySem.W.cellsFrom_some fd.scope.names (s.heap.objs.size + 1) [] (.inl q'))
            have := ic.cell y c hc
            rw [h2] at this
            exact .inr ⟨.inl q', c, v, hc, (ok.cells y c hc q').2, this, h3⟩
        · cases hm
    · rcases List.mem_cons.mp ha with rfl | ha
      · exact ⟨oL, eL, .inl ⟨esL, epL, dL⟩⟩
      · obtain ⟨⟨n, c⟩, hm, rfl⟩ := List.mem_map.mp ha
        have hnd' : ((calleeEnv fd s.heap.objs.size fa).cells.map (·.1)).Nodup := by
          rw [hcells]; exact PyProof.Rows.cellsFrom_names fd.scope.names 0 (s.heap.objs.size + 1) [] [] rfl ▸ hnd
        obtain ⟨oc, ec, dc⟩ := ic.cell n c (PyProof.Rows.lookup_of_mem_nodup hnd' hm)
        exact ⟨oc, ec, .inr ⟨_, dc⟩⟩
    · obtain ⟨ob, q', _⟩ := (g.sig a ao e).2.there; rw [freshO a ha] at q'; cases q'
  refine wpAny_mono ((h A frs s.heap.objs.size ok).run s₁ st) (fun fl s₂ ⟨fl', ρ', σ', h1, h2, h3, h4⟩ => ?_) fun e s₂ ⟨_, _, _, _, _, _, _, _, q⟩ => q.elim
  have val : ∃ p, VR s₂.heap (match fl with | .ret v => v | _ => .none) p ∧ Q p σ' := by
    cases fl' with
    | ret p => cases fl with
      | ret v => exact ⟨p, h1, h4⟩
      | _ => exact h1.elim
    | next => cases fl with
      | next => exact ⟨.none, .none, h4⟩
      | _ => exact h1.elim
    | brk => cases fl with
      | brk => exact ⟨.none, .none, h4⟩
      | _ => exact h1.elim
    | cont => cases fl with
      | cont => exact ⟨.none, .none, h4⟩
      | _ => exact h1.elim
  obtain ⟨p, hp, hq⟩ := val
  refine ⟨_, p, σ', rfl, hp, ⟨h2.base, h2.os, h2.gens, h2.sig, fun env' hm => h2.frames env' (List.mem_cons_of_mem _ hm), fun a ao e hm => h2.offF a ao e ?_⟩, ⟨fun a ob e nd => ?_, fun a ob e => ?_, fun a hs => ?_⟩, hq⟩
  · obtain ⟨env', he', hf'⟩ := List.mem_filterMap.mp hm
    exact List.mem_filterMap.mpr ⟨env', List.mem_cons_of_mem _ he', hf'⟩
  · obtain ⟨o', e', q⟩ := h3.kept a ob (ic.toInCall.keep a ob e) (by
      rintro (hm | hm)
      · rw [freshO a hm] at e; cases e
      · exact nd (.inr hm))
    refine ⟨o', e', q.imp id fun ⟨hm, hd⟩ => ⟨?_, hd⟩⟩
    rcases List.mem_cons.mp hm with q | hm
    · rw [q, freshL] at e; cases e
    · exact hm
  · exact h3.live a ob (ic.toInCall.keep a ob e)
  · rcases h3.dom a hs with q | q
    · exact .inl q
    · cases e : s.heap.get? a with
      | none => exact .inr rfl
      | some ob => rw [ic.toInCall.keep a ob e] at q; cases q
end
end SR

set_option maxRecDepth 100000
set_option linter.unusedVariables false
namespace SR
open PySem

/-- an iterator that yields the values ps; fp: what it stands on -/
structure AIter (prog : Program) (w : World) (A : Around) (I : Addr) (tgt : Expr) (fp : List Addr) (J : List PV → Heap → Prop) : Prop where
  frame : ∀ ps h h', J ps h → TupKept h h' → (∀ b ∈ fp, ∀ o, h.get? b = some o → h'.get? b = some o) → J ps h'
  next : ∀ p ps (s : Shared) (Q : Value → Shared → Prop) (E : Value → Shared → Prop), J (p :: ps) s.heap →
    (∀ v h' tk, VR h' v p → J ps h' → (∀ b o, b ≠ I → s.heap.get? b = some o → h'.get? b = some o) → Q v { s with heap := h', toks := tk }) →
    wpAny (model prog w) A (pyNext (.ref I)) (fun r s₁ => match r with | none => False | some v => wpAny (model prog w) A (letOwnedTupleGo tgt (.ref I) v) (fun _ s₂ => Q v s₂) E s₁) E s
  stop : ∀ (s : Shared) (Q : Shared → Prop) (E : Value → Shared → Prop), J [] s.heap →
    (∀ h' tk, (∀ b o, b ≠ I → s.heap.get? b = some o → h'.get? b = some o) → Q { s with heap := h', toks := tk }) →
    wpAny (model prog w) A (pyNext (.ref I)) (fun r s₁ => match r with | none => Q s₁ | some _ => False) E s
  self : ∀ ps (s : Shared) (Q : Value → Shared → Prop) (E : Value → Shared → Prop), J ps s.heap → Q (.ref I) s → wpAny (model prog w) A (pyIter (.ref I)) Q E s
  there : ∀ ps h, J ps h → ∀ b ∈ fp, ∃ o, h.get? b = some o
  mine : I ∈ fp
  notup : ∀ ps h, J ps h → ∀ vs, ¬ h.IsTuple I vs

/-- b lies out of reach -/
def Off (C : Cx) (σ : Sig) (b : Addr) : Prop := b ∉ C.own ∧ b ∉ fsOf C.frs ∧ (b ∈ C.ro ∨ σ b = none)

section
variable {C : Cx} {ρ : Loc} {σ : Sig} {X : String → Sig → Prop}

theorem Off.step {s s' : Shared} {σ' : Sig} {b : Addr} (h : Off C σ b) (k : Step C σ s σ' s') (he : ∃ o, s.heap.get? b = some o) : Off C σ' b := by
  refine ⟨h.1, h.2.1, h.2.2.imp id fun h' => ?_⟩
  cases e : σ' b with
  | none => rfl
  | some o =>
    rcases k.dom b (by rw [e]; rfl) with q | q
    · rw [h'] at q; cases q
    · obtain ⟨o, he⟩ := he; rw [he] at q; cases q
theorem Off.kept {s s' : Shared} {σ' : Sig} {b : Addr} (h : Off C σ b) (k : Step C σ s σ' s') {o : Obj} (e : s.heap.get? b = some o) : s'.heap.get? b = some o := by
  obtain ⟨o', e', q⟩ := k.kept b o e (by
    rintro (hm | ⟨hm, hr⟩)
    · exact h.1 hm
    · rcases h.2.2 with q | q
      · exact hr q
      · rw [q] at hm; cases hm)
  rcases q with rfl | ⟨q, _⟩
  · exact e'
  · exact (h.2.1 q).elim

/-- a step of something out of reach -/
theorem St.aside {s : Shared} {h' : Heap} {t : Nat} {I : Addr} (x : St C ρ σ s) (ok : C.Ok) (hI : Off C σ I) (hb : C.S.base.get? I = none) (hro : σ I = none) (hnt : ∀ vs, ¬ s.heap.IsTuple I vs) (hnc : ∀ x c, C.env.cells.lookup x = some c → c ≠ I)
    (hk : ∀ b o, b ≠ I → s.heap.get? b = some o → h'.get? b = some o) : St C ρ σ { s with heap := h', toks := t } := by
  have tk : TupKept s.heap h' := fun b vs y => by
    by_cases e : b = I
    · subst e; exact (hnt vs y).elim
    · obtain ⟨ob, q, r⟩ := y; exact ⟨ob, hk b ob e q, r⟩
  refine ⟨⟨fun b o e => hk b o (fun q => by rw [q, hb] at e; cases e) (x.base b o e), x.os, x.gens, fun a o e => ⟨(x.sig a o e).1, (x.sig a o e).2.at tk fun ob q => hk a ob (fun z => by rw [z, hro] at e; cases e) q⟩, fun env he => ?_, x.offF⟩, ⟨?_, fun y c h1 => ?_, fun a ha => ?_⟩, x.off⟩
  · obtain ⟨h1, L, o₁, h2, h3, h4, h5⟩ := x.frames env he
    exact ⟨h1, L, o₁, h2, h3, hk L o₁ (fun q => hI.2.1 (List.mem_filterMap.mpr ⟨env, he, q ▸ h2⟩)) h4, h5⟩
  · obtain ⟨m, hn, hx⟩ := x.fr.ns
    refine ⟨m, hn.extBut (b := I) (fun b ob hb e => hk b ob hb e) (fun q => hI.1 (q ▸ ok.loc)), fun y p e => ?_⟩
    rcases hx y p e with ⟨h1, u, h2, h3⟩ | ⟨h1, d, u, h2, h4, h5, h6⟩
    · exact .inl ⟨h1, u, h2, h3.mono tk⟩
    · obtain ⟨ob, q, r⟩ := h5
      exact .inr ⟨h1, d, u, h2, h4, ⟨ob, hk d ob (hnc y d h2) q, r⟩, h6.mono tk⟩
  · obtain ⟨u, ob, q, r⟩ := x.fr.cells y c h1; exact ⟨u, ob, hk c ob (hnc y c h1) q, r⟩
  · obtain ⟨o, e, r⟩ := x.fr.own a ha; exact ⟨o, hk a o (fun q => hI.1 (q ▸ ha)) e, r⟩

/-- where a loop lays its item -/
def BindT (C : Cx) : List Expr → List PV → Loc → Loc → Prop
  | [], [], ρ, ρ' => ρ' = ρ
  | .Name x _ :: es, p :: ps, ρ, ρ' => Stores C x ∧ BindT C es ps (ρ.set x p) ρ'
  | _, _, _, _ => False
def Bind1 (C : Cx) (tgt : Expr) (p : PV) (ρ ρ' : Loc) : Prop :=
  match tgt with
  | .Name x _ => Stores C x ∧ ρ' = ρ.set x p
  | .Tuple es _ _ => ∃ ps, p = .tup ps ∧ BindT C es ps ρ ρ'
  | _ => False

/-- the turns of a for, abstractly -/
def ForL (C : Cx) (tgt : Expr) (body : List Stmt) : List PV → Loc → Sig → (Fl → Loc → Sig → Prop) → Prop
  | [], ρ, σ, Q => Q .next ρ σ
  | p :: ps, ρ, σ, Q => ∃ ρ₁, Bind1 C tgt p ρ ρ₁ ∧ Exs C body ρ₁ σ (fun fl ρ₂ σ₂ => match fl with
      | .next | .cont => ForL C tgt body ps ρ₂ σ₂ Q
      | .brk => Q .next ρ₂ σ₂
      | .ret v => Q (.ret v) ρ₂ σ₂) noX

theorem BindT.names : ∀ {es : List Expr} {ps : List PV} {ρ ρ' : Loc} (env : Env), BindT C es ps ρ ρ' → (assignEach es env).length = ps.length ∧ (assignEach es env).findIdx? (·.1) = none
  | [], [], _, _, env, _ => ⟨rfl, rfl⟩
  | .Name x q :: es, p :: ps, ρ, ρ', env, h => by
    obtain ⟨h1, h2⟩ := BindT.names (es := es) (ps := ps) env h.2
    refine ⟨congrArg (· + 1) h1, ?_⟩
    show List.findIdx? _ ((false, assign (.Name x q) env) :: assignEach es env) = none
    rw [List.findIdx?_cons, h2]; rfl
  | [], _ :: _, _, _, _, h => by cases h
  | _ :: _, [], _, _, _, h => by
    unfold BindT at h
    split at h <;> simp_all
  | .BoolOp .. :: _, _ :: _, _, _, _, h => by cases h
  | .NamedExpr .. :: _, _ :: _, _, _, _, h => by cases h
  | .BinOp .. :: _, _ :: _, _, _, _, h => by cases h
  | .UnaryOp .. :: _, _ :: _, _, _, _, h => by cases h
  | .Lambda .. :: _, _ :: _, _, _, _, h => by cases h
  | .IfExp .. :: _, _ :: _, _, _, _, h => by cases h
  | .Dict .. :: _, _ :: _, _, _, _, h => by cases h
  | .Set .. :: _, _ :: _, _, _, _, h => by cases h
  | .ListComp .. :: _, _ :: _, _, _, _, h => by cases h
  | .SetComp .. :: _, _ :: _, _, _, _, h => by cases h
  | .DictComp .. :: _, _ :: _, _, _, _, h => by cases h
  | .GeneratorExp .. :: _, _ :: _, _, _, _, h => by cases h
  | .Await .. :: _, _ :: _, _, _, _, h => by cases h
  | .Yield .. :: _, _ :: _, _, _, _, h => by cases h
  | .YieldFrom .. :: _, _ :: _, _, _, _, h => by cases h
  | .Compare .. :: _, _ :: _, _, _, _, h => by cases h
  | .Call .. :: _, _ :: _, _, _, _, h => by cases h
  | .FormattedValue .. :: _, _ :: _, _, _, _, h => by cases h
  | .JoinedStr .. :: _, _ :: _, _, _, _, h => by cases h
  | .Constant .. :: _, _ :: _, _, _, _, h => by cases h
  | .Attribute .. :: _, _ :: _, _, _, _, h => by cases h
  | .Subscript .. :: _, _ :: _, _, _, _, h => by cases h
  | .Starred .. :: _, _ :: _, _, _, _, h => by cases h
  | .List .. :: _, _ :: _, _, _, _, h => by cases h
  | .Tuple .. :: _, _ :: _, _, _, _, h => by cases h
  | .Slice .. :: _, _ :: _, _, _, _, h => by cases h

theorem wp_assignT (ok : C.Ok) {P : Unit → Shared → Prop} {E : Value → Shared → Prop} : ∀ (es : List Expr) (ps : List PV) (ρ ρ' : Loc) (vs : List Value) (s : Shared), BindT C es ps ρ ρ' → St C ρ σ s → VRs s.heap vs ps →
    (∀ s', St C ρ' σ s' → Step C σ s σ s' → P () s') → wpAny (model C.S.prog C.S.w) C.A (assignInOrder ((assignEach es C.env).map (·.2)) vs) P E s := by
  intro es
  induction es with
  | nil =>
    intro ps ρ ρ' vs s hb x hv h
    cases ps with
    | nil => cases hb; cases hv; exact wpAny_pure (h s x (.refl _ _ _ _ _))
    | cons _ _ => cases hb
  | cons e es ih =>
    intro ps ρ ρ' vs s hb x hv h
    cases ps with
    | nil => unfold BindT at hb; split at hb <;> simp_all
    | cons p ps =>
      cases e with
      | Name y q =>
        cases hv with
        | cons r rs =>
          show wpAny _ _ (do holding _ (assign (.Name y q) C.env _); assignInOrder ((assignEach es C.env).map (·.2)) _) _ _ _
          refine wpAny_bind (wpAny_holding (wpAny_assign_Name (wp_store ok x r hb.1 fun s' x' k' => ?_)))
          exact ih ps _ _ _ s' hb.2 x' (rs.mono (x.tup k'.kept)) fun s'' x'' k'' => h s'' x'' (k'.trans k'')
      | _ => cases hb

theorem wp_assign {tgt : Expr} {v : Value} {p : PV} {ρ' : Loc} {s : Shared} {P : Unit → Shared → Prop} {E : Value → Shared → Prop} (ok : C.Ok) (x : St C ρ σ s) (hv : VR s.heap v p) (hb : Bind1 C tgt p ρ ρ')
    (h : ∀ s', St C ρ' σ s' → Step C σ s σ s' → P () s') : wpAny (model C.S.prog C.S.w) C.A (assign tgt C.env v) P E s := by
  cases tgt with
  | Name y q =>
    obtain ⟨hk, rfl⟩ := hb
    exact wpAny_assign_Name (wp_store ok x hv hk h)
  | Tuple es k pos =>
    obtain ⟨ps, rfl, hb⟩ := hb
    cases hv with
    | tup ht hvs =>
      obtain ⟨h1, h2⟩ := hb.names C.env
      refine PyProof.Rows.assign_Tuple_tuple ok.hh ht (by rw [h1, ← hvs.length]; simp) h2 fun h' he => ?_
      have hk : ∀ b o, s.heap.get? b = some o → h'.get? b = some o := fun b o e => he b o (Nat.ne_of_lt (Heap.lt_size e)) e
      exact wp_assignT ok es ps _ _ _ _ hb (x.ext hk) (hvs.mono (.of_ext hk)) fun s' x' k' => h s' x' ((Stp.ext (t := s.toks) hk).trans k')
  | _ => cases hb

/-- what is asked of an iterator's ground -/
structure Ground (C : Cx) (σ : Sig) (I : Addr) (fp : List Addr) (h : Heap) : Prop where
  off : ∀ b ∈ fp, Off C σ b
  new : C.S.base.get? I = none
  sig : σ I = none
  cell : ∀ x c, C.env.cells.lookup x = some c → c ≠ I

theorem Ground.step {s s' : Shared} {σ' : Sig} {I : Addr} {fp : List Addr} (g : Ground C σ I fp s.heap) (k : Step C σ s σ' s') (ht : ∀ b ∈ fp, ∃ o, s.heap.get? b = some o) (hI : I ∈ fp) : Ground C σ' I fp s'.heap := by
  refine ⟨fun b hb => (g.off b hb).step k (ht b hb), g.new, ?_, g.cell⟩
  cases e : σ' I with
  | none => rfl
  | some o =>
    rcases k.dom I (by rw [e]; rfl) with q | q
    · rw [g.sig] at q; cases q
    · obtain ⟨o, he⟩ := ht I hI; rw [he] at q; cases q

theorem forLoop_sound {tgt : Expr} {body : List Stmt} {Q : Fl → Loc → Sig → Prop} (ok : C.Ok) {I : Addr} {fp : List Addr} {J : List PV → Heap → Prop} (W : AIter C.S.prog C.S.w C.A I tgt fp J) (s₀ : Shared) (σ₀ : Sig) (h0 : s₀.heap.get? I = none)
    (s : Shared) (pvs : List PV) (x : St C ρ σ s) (k₀ : Step C σ₀ s₀ σ s) (hJ : J pvs s.heap) (g : Ground C σ I fp s.heap) (hf : ForL C tgt body pvs ρ σ Q) :
    codeAny (model C.S.prog C.S.w) C.A (.forLoop tgt (.ref I) body [] C.env) (fun r s' => ∃ f, r = .ok f ∧ PostS C σ₀ s₀ Q f s') s := by
  refine codeAny_forLoop_any (fun n s => ∃ pvs ρ σ, n = pvs.length ∧ St C ρ σ s ∧ Step C σ₀ s₀ σ s ∧ J pvs s.heap ∧ Ground C σ I fp s.heap ∧ ForL C tgt body pvs ρ σ Q) ?_ pvs.length ⟨pvs, ρ, σ, rfl, x, k₀, hJ, g, hf⟩
  rintro n s ⟨pvs, ρ, σ, rfl, x, k₀, hJ, g, hf⟩
  have aside : ∀ (h' : Heap) (tk : Nat), (∀ b o, b ≠ I → s.heap.get? b = some o → h'.get? b = some o) → St C ρ σ { s with heap := h', toks := tk } ∧ Step C σ₀ s₀ σ { s with heap := h', toks := tk } := fun h' tk hk => by
    refine ⟨x.aside ok (g.off I W.mine) g.new g.sig (W.notup _ _ hJ) g.cell hk, ⟨fun a o e nd => ?_, fun a o e => ?_, k₀.dom⟩⟩
    · obtain ⟨o', e', q⟩ := k₀.kept a o e nd
      exact ⟨o', hk a o' (fun z => by rw [z, h0] at e; cases e) e', q⟩
    · obtain ⟨o', e'⟩ := k₀.live a o e
      exact ⟨o', hk a o' (fun z => by rw [z, h0] at e; cases e) e'⟩
  cases pvs with
  | nil =>
    refine wpAny_mono (W.stop s (fun s₁ => St C ρ σ s₁ ∧ Step C σ₀ s₀ σ s₁) _ hJ fun h' tk hk => aside h' tk hk) (fun r s₁ hr => ?_) fun _ _ e => e
    cases r with
    | some _ => exact hr.elim
    | none => exact wpAny_execs_nil ⟨.next, rfl, .next, ρ, σ, trivial, hr.1, hr.2, hf⟩
  | cons p ps =>
    obtain ⟨ρ₁, hb, hbody⟩ := hf
    refine wpAny_mono (W.next p ps s (fun v s₁ => VR s₁.heap v p ∧ J ps s₁.heap ∧ St C ρ σ s₁ ∧ Step C σ₀ s₀ σ s₁) _ hJ fun v h' tk hv hJ' hk => ⟨hv, hJ', aside h' tk hk⟩) (fun r s₁ hr => ?_) fun _ _ e => e
    cases r with
    | none => exact hr.elim
    | some v =>
      refine wpAny_mono hr (fun _ s₂ ⟨hv, hJ₂, x₂, k₂⟩ => ?_) fun _ _ e => e
      refine wp_assign ok x₂ hv hb fun s₃ x₃ k₃ => ?_
      refine wpAny_mono (hbody.run s₃ x₃) (fun f s₄ ⟨fl, ρ₄, σ₄, h1, x₄, k₄, h4⟩ => ?_) fun _ _ ⟨_, _, _, _, _, _, _, _, q⟩ => q.elim
      have k₃₄ := k₃.trans k₄
      have th := W.there _ _ hJ₂
      have g₂ : Ground C σ I fp s₂.heap := ⟨g.off, g.new, g.sig, g.cell⟩
      have kk := k₂.trans k₃₄
      have hJ₄ : J ps s₄.heap := W.frame _ _ _ hJ₂ (x₂.tup k₃₄.kept) fun b hb o e => (g₂.off b hb).kept k₃₄ e
      have goon : ForL C tgt body ps ρ₄ σ₄ Q → ∃ m, m < (p :: ps).length ∧ ∃ pvs ρ σ, m = pvs.length ∧ St C ρ σ s₄ ∧ Step C σ₀ s₀ σ s₄ ∧ J pvs s₄.heap ∧ Ground C σ I fp s₄.heap ∧ ForL C tgt body pvs ρ σ Q := fun q =>
        ⟨ps.length, Nat.lt_succ_self _, ps, ρ₄, σ₄, rfl, x₄, kk, hJ₄, g₂.step k₃₄ th W.mine, q⟩
      cases fl with
      | next => cases f with
        | next => exact goon h4
        | _ => exact h1.elim
      | cont => cases f with
        | cont => exact goon h4
        | _ => exact h1.elim
      | brk => cases f with
        | brk => exact ⟨.next, rfl, .next, ρ₄, σ₄, trivial, x₄, kk, h4⟩
        | _ => exact h1.elim
      | ret p => cases f with
        | ret v => exact ⟨.ret v, rfl, .ret p, ρ₄, σ₄, h1, x₄, kk, h4⟩
        | _ => exact h1.elim
end
end SR

set_option maxRecDepth 100000
set_option linter.unusedVariables false
namespace SR
open PySem

/-- objects that stay as they are -/
def Cx.frz (C : Cx) (fz : List Addr) : Cx := { C with ro := fz ++ C.ro }

section
variable {C : Cx} {ρ : Loc} {σ : Sig} {X : String → Sig → Prop}

theorem Cx.Ok.frz (ok : C.Ok) (fz : List Addr) : (C.frz fz).Ok := ⟨ok.S, ok.hh, ok.depth, ok.units, ok.kind, ok.globals, ok.builtins, ok.kinds, ok.loc, ok.cells, ok.apart, ok.new, ok.frames⟩
theorem St.frz {s : Shared} (x : St C ρ σ s) (fz : List Addr) : St (C.frz fz) ρ σ s :=
  ⟨⟨x.base, x.os, x.gens, x.sig, x.frames, x.offF⟩, ⟨x.fr.ns, x.fr.cells, x.fr.own⟩, x.off⟩
theorem St.unfrz {s : Shared} {fz : List Addr} (x : St (C.frz fz) ρ σ s) : St C ρ σ s :=
  ⟨⟨x.base, x.os, x.gens, x.sig, x.frames, x.offF⟩, ⟨x.fr.ns, x.fr.cells, x.fr.own⟩, x.off⟩
theorem Step.unfrz {s s' : Shared} {σ' : Sig} {fz : List Addr} (k : Step (C.frz fz) σ s σ' s') : Step C σ s σ' s' :=
  ⟨fun a o e nd => k.kept a o e fun h => nd (h.imp id fun h => ⟨h.1, fun q => h.2 (List.mem_append_right _ q)⟩), k.live, k.dom⟩

/-- p, as an iterable, yields pvs; while it is walked the objects fz must stay -/
def Iterates (C : Cx) (tgt : Expr) (p : PV) (σ : Sig) (fz : List Addr) (pvs : List PV) : Prop :=
  ∀ (ρ : Loc) (s : Shared) (v : Value) (R : Value → Shared → Prop) (E : Value → Shared → Prop), St C ρ σ s → VR s.heap v p →
    (∀ I fp J h' tk, (∀ b o, s.heap.get? b = some o → h'.get? b = some o) → s.heap.get? I = none → AIter C.S.prog C.S.w C.A I tgt fp J → J pvs h' →
      (∀ b ∈ fp, s.heap.get? b = none ∨ b ∈ fz ∨ ∃ vs, s.heap.IsTuple b vs) → R (.ref I) { s with heap := h', toks := tk }) →
    wpAny (model C.S.prog C.S.w) C.A (pyIter v) R E s

theorem ground_of {fz : List Addr} {I : Addr} {fp : List Addr} {s : Shared} {h' : Heap} {t : Nat} (x : St C ρ σ s) (hI : s.heap.get? I = none) (hfz : ∀ b ∈ fz, ∃ o, σ b = some o) (hfp : ∀ b ∈ fp, s.heap.get? b = none ∨ b ∈ fz ∨ ∃ vs, s.heap.IsTuple b vs) :
    Ground (C.frz fz) σ I fp h' := by
  refine ⟨fun b hb => ?_, x.fresh_base hI, x.fresh_sig hI, fun y c e q => ?_⟩
  · rcases hfp b hb with h | h | ⟨vs, h⟩
    · exact ⟨x.fresh_own h, x.fresh_fs h, .inr (x.fresh_sig h)⟩
    · obtain ⟨o, e⟩ := hfz b h
      exact ⟨x.off b o e, x.offF b o e, .inl (List.mem_append_left _ h)⟩
    · obtain ⟨o, e, hc, n, hd⟩ := h
      refine ⟨fun hm => ?_, fun hm => ?_, .inr ?_⟩
      · obtain ⟨o', e', r⟩ := x.fr.own b hm
        rw [e] at e'; cases e'
        rcases r with ⟨_, _, r⟩ | ⟨_, r⟩ <;> rw [hd] at r <;> cases r
      · obtain ⟨o', es, ep, e', hd'⟩ := x.frame_data hm
        rw [e] at e'; cases e'; rw [hd] at hd'; cases hd'
      · cases q : σ b with
        | none => rfl
        | some ao => exact (x.not_tup q vs ⟨o, e, hc, n, hd⟩).elim
  · obtain ⟨v, o, e', _⟩ := x.fr.cells y c e
    rw [q, hI] at e'; cases e'

/-! the iterators -/
theorem wpAny_letOwned_list {M : Model} {A : Around} {tgt : Expr} {I l : Addr} {i : Nat} {v : Value} {s : Shared} {prog : Program} {w : World} {Q : Unit → Shared → Prop} {E : Value → Shared → Prop} (hit : s.heap.IsListIter I l i) (hQ : Q () s)
    (ht : (∃ x p, tgt = .Name x p) ∨ ∃ es k p, tgt = .Tuple es k p) : wpAny (model prog w) A (letOwnedTupleGo tgt (.ref I) v) Q E s := by
  rcases ht with ⟨x, p, rfl⟩ | ⟨es, k, p, rfl⟩
  · exact wpAny_pure hQ
  · cases v with
    | ref T => exact wpAny_letOwnedTupleGo_listiter hit hQ
    | _ => exact wpAny_pure hQ

def LJ (I l : Addr) (ps : List PV) (h : Heap) : Prop := ∃ i, ∃ vs : List Value, h.IsListIter I l i ∧ h.IsList l vs.toArray ∧ VRs h (vs.drop i) ps

theorem listIter_notup {I l : Addr} {i : Nat} {h : Heap} (x : h.IsListIter I l i) (vs : Array Value) : ¬ h.IsTuple I vs := by
  rintro ⟨o, e, hc, _⟩
  obtain ⟨o', e', hc', _⟩ := x
  rw [e] at e'; cases e'; rw [hc] at hc'; simp at hc'

theorem AIter.list {prog : Program} {w : World} {A : Around} (hh : A.handled = none) {I l : Addr} (hne : l ≠ I) {tgt : Expr} (ht : (∃ x p, tgt = .Name x p) ∨ ∃ es k p, tgt = .Tuple es k p) : AIter prog w A I tgt [I, l] (LJ I l) where
  frame := fun ps h h' ⟨i, vs, h1, h2, h3⟩ k hk => ⟨i, vs, h1.at fun o e => hk I (by simp) o e, h2.at fun o e => hk l (by simp) o e, h3.mono k⟩
  next := by
    rintro p ps s Q E ⟨i, vs, h1, h2, h3⟩ hQ
    obtain ⟨v, ws, e, r, rs⟩ := h3.cons_inv
    have hv : vs[i]? = some v := by
      have : (vs.drop i)[0]? = some v := by rw [e]; rfl
      simpa using this
    have hd : vs.drop (i + 1) = ws := by
      have : (vs.drop i).drop 1 = ws := by rw [e]; rfl
      simpa [List.drop_drop] using this
    refine wpAny_pyNext_list_item h1 h2 (x := v) (by simpa using hv) fun h' hit hs => ?_
    have tk : TupKept s.heap h' := fun b us y => by
      by_cases q : b = I
      · subst q; exact (listIter_notup h1 us y).elim
      · obtain ⟨ob, z, r⟩ := y; exact ⟨ob, hs.extBut b ob q z, r⟩
    refine wpAny_letOwned_list (M := model prog w) hit (hQ v h' s.toks (r.mono tk) ⟨i + 1, vs, hit, h2.extBut hs.extBut hne, hd ▸ rs.mono tk⟩ fun b o hb e => hs.extBut b o hb e) ht
  stop := by
    rintro s Q E ⟨i, vs, h1, h2, h3⟩ hQ
    have hn : vs.toArray[i]? = none := by
      have := h3.nil_inv
      simpa using List.drop_eq_nil_iff.mp this
    exact wpAny_pyNext_list_end hh h1 h2 hn fun h' he => hQ h' s.toks fun b o hb e => he b o hb e
  self := fun ps s Q E ⟨i, vs, h1, _⟩ hQ => wpAny_pyIter_listiter h1 hQ
  there := by
    rintro ps h ⟨i, vs, ⟨o, e, _⟩, ⟨o', e', _⟩, _⟩ b hb
    simp only [List.mem_cons, List.not_mem_nil, or_false] at hb
    rcases hb with rfl | rfl
    · exact ⟨o, e⟩
    · exact ⟨o', e'⟩
  mine := by simp
  notup := fun ps h ⟨i, vs, h1, _⟩ us => listIter_notup h1 us

def oneName : Expr → Bool
  | .Name .. => true
  | _ => false
def nameOrTuple : Expr → Bool
  | .Name .. | .Tuple .. => true
  | _ => false
theorem nameOrTuple_is {t : Expr} (h : nameOrTuple t = true) : (∃ x p, t = .Name x p) ∨ ∃ es k p, t = .Tuple es k p := by
  cases t with
  | Name x p => exact .inl ⟨x, p, rfl⟩
  | Tuple es k p => exact .inr ⟨es, k, p, rfl⟩
  | _ => cases h
theorem oneName_is {t : Expr} (h : oneName t = true) : ∃ x p, t = .Name x p := by
  cases t with
  | Name x p => exact ⟨x, p, rfl⟩
  | _ => cases h

theorem heap_fresh (h : Heap) : h.get? h.objs.size = none := by
  cases q : h.get? h.objs.size with
  | none => rfl
  | some o => exact absurd (Heap.lt_size q) (Nat.lt_irrefl _)

theorem Iterates.list {tgt : Expr} {l : Addr} {pvs : List PV} (ok : C.Ok) (hl : σ l = some (.list pvs)) (ht : nameOrTuple tgt = true := by rfl) : Iterates C tgt (.ref l) σ [l] pvs := by
  intro ρ s v R E x hv h
  cases hv
  obtain ⟨vs, pl, rs⟩ := (x.sig l _ hl).2
  have hlt : l < s.heap.objs.size := by obtain ⟨n, e⟩ := pl; exact Heap.lt_size e
  have kp : ∀ b o, s.heap.get? b = some o → (s.heap.push { cls := .type "list_iterator", data := .fields #[.ref l, .int 0 0] }).get? b = some o := fun b o e => Heap.get?_push_of_some _ e
  refine wpAny_pyIter_list pl.isList (h _ [s.heap.objs.size, l] (LJ s.heap.objs.size l) _ s.toks kp (heap_fresh _) (AIter.list ok.hh (Nat.ne_of_lt hlt) (nameOrTuple_is ht)) ⟨0, vs, ⟨_, Heap.get?_push_size _ rfl, rfl, rfl⟩, (pl.at fun o e => kp _ _ e).isList, ?_⟩ ?_)
  · exact rs.mono (.of_ext kp)
  · intro b hb
    simp only [List.mem_cons, List.not_mem_nil, or_false] at hb
    rcases hb with rfl | rfl
    · exact .inl (heap_fresh _)
    · exact .inr (.inl (by simp))

/-! tuples -/
/-! ranges -/
def intsFrom (a : Int) : Nat → List PV
  | 0 => []
  | n + 1 => .int a :: intsFrom (a + 1) n
def RJ (I : Addr) (ps : List PV) (h : Heap) : Prop := ∃ (x : Int) (n : Nat), IsRangeIter h I x n 1 ∧ ps = intsFrom x n
theorem AIter.range {prog : Program} {w : World} {A : Around} (hh : A.handled = none) {I : Addr} {tgt : Expr} (ht : ∃ x p, tgt = .Name x p) : AIter prog w A I tgt [I] (RJ I) where
  frame := fun ps h h' ⟨x, n, h1, h2⟩ k hk => ⟨x, n, hk I (by simp) _ h1, h2⟩
  next := by
    rintro p ps s Q E ⟨x, n, h1, h2⟩ hQ
    cases n with
    | zero => cases h2
    | succ n =>
      cases h2
      refine wpAny_pyNext_range_item h1 (by omega) fun h' hit hs => ?_
      obtain ⟨y, px, rfl⟩ := ht
      exact wpAny_pure (hQ _ h' _ (.int _ _) ⟨x + 1, n, by simpa using hit, rfl⟩ fun b o hb e => hs.extBut b o hb e)
  stop := by
    rintro s Q E ⟨x, n, h1, h2⟩ hQ
    cases n with
    | zero => exact wpAny_pyNext_range_end hh h1 (by simp) fun h' he => hQ h' s.toks fun b o hb e => he b o hb e
    | succ n => cases h2
  self := fun ps s Q E ⟨x, n, h1, _⟩ hQ => wpAny_pyIter_rangeiter h1 hQ
  there := by
    rintro ps h ⟨x, n, h1, _⟩ b hb
    simp only [List.mem_cons, List.not_mem_nil, or_false] at hb
    exact ⟨_, hb ▸ h1⟩
  mine := by simp
  notup := by
    rintro ps h ⟨x, n, h1, _⟩ us ⟨o, e, hc, _⟩
    rw [h1] at e; cases e; simp at hc
theorem Iterates.range {tgt : Expr} {r : Addr} {lo hi : Int} (ok : C.Ok) (hr : σ r = some (.range lo hi)) (h1 : -(2 ^ 62) < lo) (h2 : hi < 2 ^ 62) (h3 : lo < 2 ^ 62) (h4 : -(2 ^ 62) < hi) (ht : oneName tgt = true := by rfl) :
    Iterates C tgt (.ref r) σ [] (intsFrom lo (hi - lo).toNat) := by
  intro ρ s v R E x hv h
  cases hv
  obtain ⟨t, u, w', hR⟩ := (x.sig r _ hr).2
  have hsm : Builtin.Range.small lo hi 1 = true := small_one (by omega) h3 (by omega) h2
  refine wpAny_pyIter_range hR hsm (h _ [s.heap.objs.size] (RJ s.heap.objs.size) _ s.toks (fun b o e => Heap.get?_push_of_some _ e) (heap_fresh _) (AIter.range ok.hh (oneName_is ht)) ⟨lo, (hi - lo).toNat, ?_, rfl⟩ ?_)
  · rw [PyProof.Rows.rangeSize_nat]
    exact Heap.get?_push_size _ rfl
  · intro b hb
    simp only [List.mem_cons, List.not_mem_nil, or_false] at hb
    subst hb; exact .inl (heap_fresh _)
end
end SR

set_option maxRecDepth 100000
set_option linter.unusedVariables false
namespace SR
open PySem

section
variable {C : Cx} {ρ : Loc} {σ : Sig} {X : String → Sig → Prop} {Q : PV → Sig → Prop}

theorem Post.alloc {s : Shared} {h' : Heap} {t : Nat} {a : Addr} (o : AO) (x : St C ρ σ s) (hk : ∀ b o, s.heap.get? b = some o → h'.get? b = some o) (ha : s.heap.get? a = none) (hr : OR C.S h' a o) (hq : σ a = none → Q (.ref a) (σ.set a o)) :
    Post C ρ σ s Q (.ref a) { s with heap := h', toks := t } := ⟨.ref a, _, .ref a, x.alloc hk ha hr, Stp.alloc hk ha, hq (x.fresh_sig ha)⟩
theorem Post.upd {s : Shared} {h' : Heap} {t : Nat} {a : Addr} {o : AO} (o' : AO) {v : Value} {p : PV} (ok : C.Ok) (x : St C ρ σ s) (hσ : σ a = some o) (hro : a ∉ C.ro) (hk : ∀ b o, b ≠ a → s.heap.get? b = some o → h'.get? b = some o) (hr : OR C.S h' a o') (hv : VR h' v p)
    (hq : Q p (σ.set a o')) : Post C ρ σ s Q v { s with heap := h', toks := t } := ⟨p, _, hv, x.upd hσ hk hr ok, Stp.upd (S := C.S) hσ hro hk hr, hq⟩

/-! ints -/
section
variable {a b : Int}
theorem Op2.add (h : Q (.int (a + b)) σ) : OpBin C .Add (.int a) (.int b) ρ σ Q X := by
  refine ⟨fun s v u x hv hu => ?_⟩; cases hv; cases hu; exact P.add_int (.tok x _ (.int _ _) h)
theorem Op2.sub (h : Q (.int (a - b)) σ) : OpBin C .Sub (.int a) (.int b) ρ σ Q X := by
  refine ⟨fun s v u x hv hu => ?_⟩; cases hv; cases hu; exact P.sub_int (.tok x _ (.int _ _) h)
theorem Op2.mul (h : Q (.int (a * b)) σ) (hm : IntMulOk a b) : OpBin C .Mult (.int a) (.int b) ρ σ Q X := by
  refine ⟨fun s v u x hv hu => ?_⟩; cases hv; cases hu; exact P.mul_int (.tok x _ (.int _ _) h) hm
theorem fmod_pos (a : Int) {b : Int} (hb : 0 < b) : a.fmod b = a % b := Int.fmod_eq_emod_of_nonneg a (Int.le_of_lt hb)
theorem Op2.mod (hb : 0 < b) (h : Q (.int (a % b)) σ) : OpBin C .Mod (.int a) (.int b) ρ σ Q X := by
  refine ⟨fun s v u x hv hu => ?_⟩; cases hv; cases hu
  exact PyProof.Rows.mod_int' (Int.ne_of_gt hb) (by rw [fmod_pos a hb]; exact .tok x _ (.int _ _) h)
theorem Op2.fdiv (hb : 0 < b) (hp : Builtin.divisionGoesByPylong a b = false) (h : Q (.int (a / b)) σ) : OpBin C .FloorDiv (.int a) (.int b) ρ σ Q X := by
  refine ⟨fun s v u x hv hu => ?_⟩; cases hv; cases hu
  exact PyProof.Rows.floordiv_int (Int.ne_of_gt hb) (by rw [Int.fdiv_eq_ediv_of_nonneg a (Int.le_of_lt hb)]; exact .tok x _ (.int _ _) h) (.inl hp)
theorem Op1.neg (h : Q (.int (-a)) σ) : OpUn C .USub (.int a) ρ σ Q X := by
  refine ⟨fun s v x hv => ?_⟩; cases hv; exact P.neg_int (.tok x _ (.int _ _) h)
theorem Op2.lt (h : Q (.bool (decide (a < b))) σ) : OpCmp C .Lt (.int a) (.int b) ρ σ Q X := by
  refine ⟨fun s v u x hv hu => ?_⟩; cases hv; cases hu; exact P.lt_int (.here x (.bool _) h)
theorem Op2.gt (h : Q (.bool (decide (a > b))) σ) : OpCmp C .Gt (.int a) (.int b) ρ σ Q X := by
  refine ⟨fun s v u x hv hu => ?_⟩; cases hv; cases hu; exact P.gt_int (.here x (.bool _) h)
theorem Op2.eqi (h : Q (.bool (decide (a = b))) σ) : OpCmp C .Eq (.int a) (.int b) ρ σ Q X := by
  refine ⟨fun s v u x hv hu => ?_⟩; cases hv; cases hu; exact P.eq_int (.here x (.bool _) h)
theorem Op2.nei (h : Q (.bool (!decide (a = b))) σ) : OpCmp C .NotEq (.int a) (.int b) ρ σ Q X := by
  refine ⟨fun s v u x hv hu => ?_⟩; cases hv; cases hu; exact P.ne_int (.here x (.bool _) h)
end

/-! texts -/
section
variable {a b : Str}
theorem beq_dec {α : Type} [DecidableEq α] (a b : α) : (a == b) = decide (a = b) := by
  by_cases h : a = b <;> simp [h]
theorem Op2.eqs (h : Q (.bool (decide (a = b))) σ) : OpCmp C .Eq (.str a) (.str b) ρ σ Q X := by
  refine ⟨fun s v u x hv hu => ?_⟩; cases hv; cases hu; exact PyProof.Rows.eq_str (.here x (.bool _) (by rw [beq_dec]; exact h))
theorem Op2.nes (h : Q (.bool (!decide (a = b))) σ) : OpCmp C .NotEq (.str a) (.str b) ρ σ Q X := by
  refine ⟨fun s v u x hv hu => ?_⟩; cases hv; cases hu; exact PyProof.Rows.ne_str (.here x (.bool _) (by rw [bne, beq_dec]; exact h))
theorem Op2.lts (h : Q (.bool (decide (a.cps.toList < b.cps.toList))) σ) : OpCmp C .Lt (.str a) (.str b) ρ σ Q X := by
  refine ⟨fun s v u x hv hu => ?_⟩; cases hv; cases hu; exact PyProof.Rows.lt_str (.here x (.bool _) h)
end

/-! is -/
/-! truth -/
theorem OpT.bool {b : Bool} {Q : Bool → Sig → Prop} (h : Q b σ) : OpT C (.bool b) ρ σ Q X := by
  refine ⟨fun s v x hv => ?_⟩; cases hv; exact wpAny_truthy_bool (.here x h)

/-! displays -/
theorem Ev.tuple {es : List Expr} {k : Nat} {pos : Pos} (h : Evs C es ρ σ (fun ps σ₁ => ps.length ≤ 1000 ∧ Q (.tup ps) σ₁) X) : Ev C (.Tuple es k pos) ρ σ Q X := by
  refine ⟨fun s x => ?_⟩
  refine PyProof.Rows.Tuple_ (wpAny_mono (h.run pos s x) (fun vs s₁ ⟨ps, σ₁, r, x₁, k₁, hl, hq⟩ => ?_) fun _ _ e => e)
  have hl' : vs.length ≤ 1000 := r.length ▸ hl
  refine wpAny_newTuple ?_ (by show vs.length ≤ 2 ^ 24; omega)
  have kp : ∀ b o, s₁.heap.get? b = some o → (s₁.heap.push { cls := .type "tuple", data := .seq vs.toArray }).get? b = some o := fun b o e => Heap.get?_push_of_some _ e
  exact ⟨.tup ps, σ₁, .tup ⟨_, Heap.get?_push_size _ rfl, rfl, _, rfl⟩ (r.mono (.of_ext kp)), x₁.ext (t := s₁.toks) kp, k₁.trans (Stp.ext (t := s₁.toks) kp), hq⟩
theorem Ev.list {es : List Expr} {pos : Pos} (h : Evs C es ρ σ (fun ps σ₁ => ps.length ≤ 1000 ∧ ∀ a, σ₁ a = none → Q (.ref a) (σ₁.set a (.list ps))) X) : Ev C (.List es pos) ρ σ Q X := by
  refine ⟨fun s x => ?_⟩
  refine PyProof.Rows.List_ (wpAny_mono (h.run pos s x) (fun vs s₁ ⟨ps, σ₁, r, x₁, k₁, hl, hq⟩ => ?_) fun _ _ e => e)
  have hl' : vs.length ≤ 1000 := r.length ▸ hl
  refine wpAny_newList ?_ (by show vs.length ≤ 2 ^ 24; omega)
  have kp : ∀ b o, s₁.heap.get? b = some o → (s₁.heap.push { cls := .type "list", data := .seq vs.toArray }).get? b = some o := fun b o e => Heap.get?_push_of_some _ e
  exact (Post.alloc (t := s₁.toks) (.list ps) x₁ kp (heap_fresh _) ⟨vs, ⟨_, Heap.get?_push_size _ rfl⟩, r.mono (.of_ext kp)⟩ (hq _)).step k₁

theorem not_sysModules {s : Shared} (x : St C ρ σ s) (ok : C.Ok) : (s.heap.objs.size == sysModules) = false := by
  obtain ⟨mc, hn, _⟩ := ok.S.nolimit
  have := (hn.keeps x.base).lt
  have h2 : cStatics = 2 := rfl
  have h1 : sysModules = 1 := rfl
  rw [h2] at this
  rw [h1, beq_eq_false_iff_ne]; exact Nat.ne_of_gt (Nat.lt_of_succ_lt this)
theorem Ev.dict0 {pos : Pos} (ok : C.Ok) (h : ∀ a, σ a = none → Q (.ref a) (σ.set a (.dict []))) : Ev C (.Dict [] [] pos) ρ σ Q X := by
  refine ⟨fun s x => ?_⟩
  refine wpAny_Dict_empty ?_
  have kp : ∀ b o, s.heap.get? b = some o → (s.heap.push { cls := .type "dict", data := .dict #[] }).get? b = some o := fun b o e => Heap.get?_push_of_some _ e
  exact Post.alloc (t := s.toks) (.dict []) x kp (heap_fresh _) ⟨not_sysModules x ok, [], .new _, .nil⟩ (h _)
theorem Ev.idict0 {pos : Pos} (ok : C.Ok) (h : ∀ a, σ a = none → Q (.ref a) (σ.set a (.idict []))) : Ev C (.Dict [] [] pos) ρ σ Q X := by
  refine ⟨fun s x => ?_⟩
  refine wpAny_Dict_empty ?_
  have kp : ∀ b o, s.heap.get? b = some o → (s.heap.push { cls := .type "dict", data := .dict #[] }).get? b = some o := fun b o e => Heap.get?_push_of_some _ e
  exact Post.alloc (t := s.toks) (.idict []) x kp (heap_fresh _) ⟨not_sysModules x ok, [], .new _, .nil⟩ (h _)

/-! items -/
structure OpS (C : Cx) (value slice : Expr) (a b : PV) (ρ : Loc) (σ : Sig) (Q : PV → Sig → Prop) (X : String → Sig → Prop) : Prop where
  run : ∀ s v u, St C ρ σ s → VR s.heap v a → VR s.heap u b → wpAny (model C.S.prog C.S.w) C.A (PyProof.Rows.subscriptTail value slice v u) (Post C ρ σ s Q) (Exc C σ s X) s
theorem Ev.sub {value slice : Expr} {pos : Pos} (h : Ev C value ρ σ (fun a σ₁ => Ev C slice ρ σ₁ (fun b σ₂ => OpS C value slice a b ρ σ₂ Q X) X) X) : Ev C (.Subscript value slice pos) ρ σ Q X := by
  refine ⟨fun s x => ?_⟩
  refine PyProof.Rows.Subscript_ (wp_use (α := Unit) (h.run s x) (fun va s₁ a σ₁ ra x₁ k₁ t₁ h₁ => ?_) x)
  refine wp_on k₁ (wp_use (α := Unit) (h₁.run s₁ x₁) (fun vb s₂ b σ₂ rb x₂ k₂ t₂ h₂ => ?_) x₁) fun _ _ p => p
  exact wp_on (k₁.trans k₂) (h₂.run s₂ va vb x₂ (ra.mono t₂) rb) fun _ _ p => p.step (k₁.trans k₂)
def noSlice : Expr → Bool
  | .Slice .. => false
  | _ => true
theorem noSlice_is {slice : Expr} (h : noSlice slice = true) (o i : Value) : subscripted slice false o i = operate [o, i] (getItem o i) := by
  cases slice <;> first | rfl | cases h
theorem OpS.tuple {value slice : Expr} {ps : List PV} {k : Int} {j : Nat} {p : PV} (hj : seqIndex? k ps.length = some j) (hp : ps[j]? = some p) (hlo : -(2 ^ 63) ≤ k) (hhi : k < 2 ^ 63) (h : Q p σ) (hs : noSlice slice = true := by rfl) :
    OpS C value slice (.tup ps) (.int k) ρ σ Q X := by
  refine ⟨fun s v u x hv hu => ?_⟩
  cases hu
  cases hv with
  | @tup t vs _ ht rs =>
    obtain ⟨v, hv, r⟩ := rs.get j p hp
    exact PyProof.Rows.item_tupleT ht hlo hhi (by rw [rs.length]; exact hj) hv (.here x r h) (noSlice_is hs _ _)
/-- an item of a list that stood before the call -/
theorem OpS.base {value slice : Expr} {l : Addr} {vs : List Value} {ps : List PV} {k : Int} {p : PV} (hl : C.S.base.IsList l vs.toArray) (hps : VRs C.S.base vs ps) (h0 : 0 ≤ k) (hhi : k < 2 ^ 63) (hp : ps[k.toNat]? = some p) (h : Q p σ) (hs : noSlice slice = true := by rfl) :
    OpS C value slice (.ref l) (.int k) ρ σ Q X := by
  refine ⟨fun s v u x hv hu => ?_⟩
  cases hu; cases hv
  obtain ⟨o, e, r⟩ := hl
  have hl' : s.heap.IsList l vs.toArray := ⟨o, x.base _ _ e, r⟩
  obtain ⟨v, hv, r⟩ := (hps.mono (.of_ext x.base)).get _ p hp
  exact PyProof.Rows.tail_any hl'.typeIs slot_list_getitem.lookup (wpAny_getItem_list hl' h0 hhi (by simpa using hv) (.here x r h)) (noSlice_is hs _ _)

/-! dicts as lists of pairs -/
section
variable {K : Type} [DecidableEq K]
def dGet (kvs : List (K × PV)) (k : K) : Option PV := (kvs.find? fun kv => kv.1 = k).map (·.2)
def dSet (kvs : List (K × PV)) (k : K) (p : PV) : List (K × PV) :=
  if (kvs.any fun kv => decide (kv.1 = k)) = true then kvs.map fun kv => if kv.1 = k then (kv.1, p) else kv else kvs ++ [(k, p)]
def dDel (kvs : List (K × PV)) (k : K) : List (K × PV) := kvs.filter fun kv => decide (kv.1 ≠ k)
theorem DP.get {h : Heap} {ws : List (K × Value)} {kvs : List (K × PV)} (x : DP h ws kvs) (k : K) : (valueAt ws k = none ∧ dGet kvs k = none) ∨ ∃ v p, valueAt ws k = some v ∧ dGet kvs k = some p ∧ VR h v p := by
  induction x with
  | nil => exact .inl ⟨rfl, rfl⟩
  | @cons k' v p ws kvs e _ ih =>
    by_cases hk : k' = k
    · exact .inr ⟨v, p, by simp [valueAt, hk], by simp [dGet, hk], e⟩
    · simpa [valueAt, dGet, hk] using ih
theorem DP.any {h : Heap} {ws : List (K × Value)} {kvs : List (K × PV)} (x : DP h ws kvs) (k : K) : (ws.any fun kv => decide (kv.1 = k)) = kvs.any fun kv => decide (kv.1 = k) := by
  induction x with
  | nil => rfl
  | cons _ _ ih => simp only [List.any_cons, ih]
theorem DP.append {h : Heap} {ws us : List (K × Value)} {kvs lvs : List (K × PV)} (x : DP h ws kvs) (y : DP h us lvs) : DP h (ws ++ us) (kvs ++ lvs) := by
  induction x with
  | nil => exact y
  | cons e _ ih => exact .cons e ih
theorem DP.put {h : Heap} {ws : List (K × Value)} {kvs : List (K × PV)} (x : DP h ws kvs) (k : K) {v : Value} {p : PV} (r : VR h v p) : DP h (ws.map fun kv => if kv.1 = k then (kv.1, v) else kv) (kvs.map fun kv => if kv.1 = k then (kv.1, p) else kv) := by
  induction x with
  | nil => exact .nil
  | @cons k' v' p' ws kvs e _ ih =>
    simp only [List.map_cons]
    by_cases hk : k' = k
    · simp only [hk, if_true]; exact .cons r ih
    · simp only [hk, if_false]; exact .cons e ih
theorem DP.stored {h : Heap} {ws : List (K × Value)} {kvs : List (K × PV)} (x : DP h ws kvs) (k : K) {v : Value} {p : PV} (r : VR h v p) : DP h (stored ws k v) (dSet kvs k p) := by
  unfold PySem.stored dSet
  rw [x.any k]
  split
  · exact x.put k r
  · exact x.append (.cons r .nil)
theorem DP.without {h : Heap} {ws : List (K × Value)} {kvs : List (K × PV)} (x : DP h ws kvs) (k : K) : DP h (without ws k) (dDel kvs k) := by
  unfold PySem.without dDel
  induction x with
  | nil => exact .nil
  | @cons k' v' p' ws kvs e _ ih =>
    simp only [List.filter_cons]
    by_cases hk : k' = k
    · simp only [hk, ne_eq, not_true_eq_false, decide_false, Bool.false_eq_true, if_false]; exact ih
    · simp only [ne_eq, hk, not_false_eq_true, decide_true, if_true]; exact .cons e ih
end

theorem OpS.dict {value slice : Expr} {d : Addr} {kvs : List (Str × PV)} {k : Str} {p : PV} (hd : σ d = some (.dict kvs)) (hp : dGet kvs k = some p) (h : Q p σ) (hs : noSlice slice = true := by rfl) :
    OpS C value slice (.ref d) (.str k) ρ σ Q X := by
  refine ⟨fun s v u x hv hu => ?_⟩
  cases hu; cases hv
  obtain ⟨_, ws, hm, dp⟩ := (x.sig d _ hd).2
  rcases dp.get k with ⟨_, h2⟩ | ⟨v, p', h1, h2, r⟩
  · rw [hp] at h2; cases h2
  · rw [hp] at h2; cases h2
    exact PyProof.Rows.tail_any hm.typeIs slot_dict_getitem.lookup (wpAny_getItem_of (strKind_is _ _ _ _) hm.mapOf h1 (.tok x _ r h)) (noSlice_is hs _ _)

/-- storing under a key -/
theorem Ex.setItem {o i value : Expr} {pos' pos : Pos} {Q : Fl → Loc → Sig → Prop} (ok : C.Ok)
    (h : Ev C value ρ σ (fun p σ₁ => Ev C o ρ σ₁ (fun a σ₂ => Ev C i ρ σ₂ (fun b σ₃ => ∃ d kvs k, a = .ref d ∧ b = .str k ∧ σ₃ d = some (.dict kvs) ∧ d ∉ C.ro ∧ kvs.length ≤ 1000 ∧ Q .next ρ (σ₃.set d (.dict (dSet kvs k p)))) X) X) X)
    (hc : swapsWith value (some (.Subscript o i pos')) pos.line C.env = pure false := by rfl) : Ex C (.Assign [.Subscript o i pos'] value pos) ρ σ Q X := by
  refine ⟨fun s x => ?_⟩
  refine wpAny_Assign_Subscript (wp_use (α := Unit) (h.run s x) (fun v s₁ p σ₁ r x₁ k₁ t₁ h₁ => ?_) x) hc
  refine wp_on k₁ (wp_use (α := Unit) (h₁.run s₁ x₁) (fun va s₂ a σ₂ ra x₂ k₂ t₂ h₂ => ?_) x₁) fun _ _ p => p
  refine wp_on (k₁.trans k₂) (wp_use (α := Unit) (h₂.run s₂ x₂) (fun vb s₃ b σ₃ rb x₃ k₃ t₃ h₃ => ?_) x₂) fun _ _ p => p
  obtain ⟨d, kvs, k, rfl, rfl, hd, hro, hsz, hq⟩ := h₃
  cases ra; cases rb
  obtain ⟨hsm, ws, hm, dp⟩ := (x₃.sig d _ hd).2
  have hsz' : ws.length ≤ sizeLine := by rw [dp.length]; show _ ≤ 2 ^ 24; omega
  refine wpAny_setItem_pairs (strKind_is _ _ _ _) hm (fun h' hm' hs' => ?_) hsz'
  have ext : ∀ b o, b ≠ d → s₃.heap.get? b = some o → h'.get? b = some o := fun b o hb e => hs'.extBut b o hb e
  have tk : TupKept s₃.heap h' := fun b us y => by
    by_cases q : b = d
    · subst q; exact (x₃.not_tup hd us y).elim
    · obtain ⟨ob, z, r⟩ := y; exact ⟨ob, ext b ob q z, r⟩
  have hor : OR C.S h' d (.dict (dSet kvs k p)) := ⟨hsm, _, hm', (dp.mono tk).stored k ((r.mono (t₂.trans t₃)).mono tk)⟩
  exact ⟨.next, ρ, _, trivial, x₃.upd (t := s₃.toks + 1) hd ext hor ok, ((k₁.trans k₂).trans k₃).trans (Stp.upd (S := C.S) hd hro ext hor), hq⟩
end
end SR

set_option maxRecDepth 100000
set_option linter.unusedVariables false
set_option linter.unusedSectionVars false
namespace SR
open PySem PySem.SeqAt

section
variable {C : Cx} {ρ : Loc} {σ : Sig} {X : String → Sig → Prop} {Q : PV → Sig → Prop}

/-! equal data -/
mutual
inductive EqR (σ : Sig) : Nat → PV → PV → Prop
  | none (n : Nat) : EqR σ n .none .none
  | bool (n : Nat) (b : Bool) : EqR σ n (.bool b) (.bool b)
  | int (n : Nat) (i : Int) : EqR σ n (.int i) (.int i)
  | str (n : Nat) (x : Str) : EqR σ n (.str x) (.str x)
  | tup {n : Nat} {ps qs : List PV} : EqRL σ n ps qs → EqR σ (n + 1) (.tup ps) (.tup qs)
  | list {n : Nat} {a b : Addr} {ps qs : List PV} : σ a = some (.list ps) → σ b = some (.list qs) → EqRL σ n ps qs → EqR σ (n + 1) (.ref a) (.ref b)
inductive EqRL (σ : Sig) : Nat → List PV → List PV → Prop
  | nil (n : Nat) : EqRL σ n [] []
  | cons {n : Nat} {p q : PV} {ps qs : List PV} : EqR σ n p q → EqRL σ n ps qs → EqRL σ n (p :: ps) (q :: qs)
end
theorem EqRL.length {σ : Sig} : ∀ {n : Nat} {ps qs : List PV}, EqRL σ n ps qs → ps.length = qs.length
  | _, _, _, .nil _ => rfl
  | _, _, _, .cons _ r => congrArg (· + 1) r.length

theorem allT (n : Nat) : ((List.range n).all fun _ => true) = true := List.all_eq_true.mpr fun _ _ => rfl
mutual
theorem EqR.eqAt {s : Shared} (x : St C ρ σ s) : ∀ {n : Nat} {p q : PV}, EqR σ n p q → ∀ {A : Around} {v u : Value}, VR s.heap v p → VR s.heap u q → A.units + n < cLine → EqAt A s v u true
  | _, _, _, .none _ => by
    intro hv hu _
    cases hv; cases hu; exact EqAt.same _
  | _, _, _, .bool _ _ => by
    intro hv hu _
    cases hv; cases hu; exact EqAt.same _
  | _, _, _, .int _ i => by
    intro hv hu _
    cases hv; cases hu
    exact fun prog w E Q hq => wpAny_eqBool_int (by simpa using hq)
  | _, _, _, .str _ y => by
    intro hv hu _
    cases hv; cases hu
    exact fun prog w E Q hq => wpAny_eqBool_str (by simpa using hq)
  | _, _, _, .tup r => by
    intro hv hu hun
    rename Around => A
    cases hv with
    | @tup a vs _ ht hs =>
      cases hu with
      | @tup b us _ ht' hs' =>
        by_cases hab : a = b
        · subst hab; exact EqAt.same _
        · refine EqAt.of_refs hab ?_
          have := RcAt.tuples (A := A) (e := fun _ => true) ht ht' (by omega) (EqRL.eqAt x r hs hs' (by show A.units + 1 + _ < _; omega))
          simpa [hs.length, hs'.length, r.length, allT] using this
  | _, _, _, .list (a := a) (b := b) ha hb r => by
    intro hv hu hun
    rename Around => A
    cases hv; cases hu
    by_cases hab : a = b
    · subst hab; exact EqAt.same _
    · refine EqAt.of_refs hab ?_
      obtain ⟨vs, pl, hs⟩ := (x.sig a _ ha).2
      obtain ⟨us, pl', hs'⟩ := (x.sig b _ hb).2
      have := RcAt.lists (A := A) (e := fun _ => true) pl.isList pl'.isList (by simpa using (hs.length.trans r.length).trans hs'.length.symm) (by omega) (EqRL.eqAt x r hs hs' (by show A.units + 1 + _ < _; omega))
      simpa [allT] using this
theorem EqRL.eqAt {s : Shared} (x : St C ρ σ s) : ∀ {n : Nat} {ps qs : List PV}, EqRL σ n ps qs → ∀ {A : Around} {vs us : List Value}, VRs s.heap vs ps → VRs s.heap us qs → A.units + n < cLine →
    ∀ j (h1 : j < vs.toArray.size) (h2 : j < us.toArray.size), EqAt A s vs.toArray[j] us.toArray[j] true
  | _, _, _, .nil _ => by
    intro hv hu _ j h1 _
    cases hv; simp at h1
  | _, _, _, .cons e r => by
    intro hv hu hun j h1 h2
    cases hv with
    | cons a b =>
      cases hu with
      | cons c d =>
        cases j with
        | zero => exact EqR.eqAt x e a c hun
        | succ j =>
          have := EqRL.eqAt x r b d hun j (by simpa using h1) (by simpa using h2)
          simpa using this
end

theorem Op2.eqSame {n : Nat} {p q : PV} (ok : C.Ok) (r : EqR σ n p q) (hn : n ≤ 6) (hr : p.isRef = true) (h : Q (.bool true) σ) : OpCmp C .Eq p q ρ σ Q X := by
  refine ⟨fun s v u x hv hu => ?_⟩
  have hun := ok.units
  cases r with
  | tup r =>
    next m ps qs =>
    cases hv with
    | tup ht hs => cases hu with
      | tup ht' hs' =>
        refine eq_tupleAt (e := fun _ => true) ht ht' (by omega) (EqRL.eqAt x r hs hs' (by show C.A.units + 1 + _ < _; omega)) (.here x (.bool _) ?_)
        simpa [hs.length, hs'.length, r.length, allT] using h
  | list ha hb r =>
    cases hv; cases hu
    obtain ⟨vs, pl, hs⟩ := (x.sig _ _ ha).2
    obtain ⟨us, pl', hs'⟩ := (x.sig _ _ hb).2
    refine eq_listAt (e := fun _ => true) pl.isList pl'.isList (by simpa using (hs.length.trans r.length).trans hs'.length.symm) (by omega) (EqRL.eqAt x r hs hs' (by show C.A.units + 1 + _ < _; omega)) (.here x (.bool _) ?_)
    simpa [allT] using h
  | _ => cases hr
theorem Op2.neSame {n : Nat} {p q : PV} (ok : C.Ok) (r : EqR σ n p q) (hn : n ≤ 6) (hr : p.isRef = true) (h : Q (.bool false) σ) : OpCmp C .NotEq p q ρ σ Q X := by
  refine ⟨fun s v u x hv hu => ?_⟩
  have hun := ok.units
  cases r with
  | tup r =>
    next m ps qs =>
    cases hv with
    | tup ht hs => cases hu with
      | tup ht' hs' =>
        refine RcNeAt.tuples (e := fun _ => true) ht ht' (by omega) (EqRL.eqAt x r hs hs' (by show C.A.units + 1 + _ < _; omega)) _ _ _ _ (.here x (.bool _) ?_)
        simpa [hs.length, hs'.length, r.length, allT] using h
  | list ha hb r =>
    cases hv; cases hu
    obtain ⟨vs, pl, hs⟩ := (x.sig _ _ ha).2
    obtain ⟨us, pl', hs'⟩ := (x.sig _ _ hb).2
    refine RcNeAt.lists (e := fun _ => true) pl.isList pl'.isList (by simpa using (hs.length.trans r.length).trans hs'.length.symm) (by omega) (EqRL.eqAt x r hs hs' (by show C.A.units + 1 + _ < _; omega)) _ _ _ _ (.here x (.bool _) ?_)
    simpa [allT] using h
  | _ => cases hr
/-- lists of two lengths -/
theorem Op2.eqLen {a b : Addr} {ps qs : List PV} (ok : C.Ok) (ha : σ a = some (.list ps)) (hb : σ b = some (.list qs)) (hl : ps.length ≠ qs.length) (h : Q (.bool false) σ) : OpCmp C .Eq (.ref a) (.ref b) ρ σ Q X := by
  refine ⟨fun s v u x hv hu => ?_⟩
  have hun := ok.units
  cases hv; cases hu
  obtain ⟨vs, pl, hs⟩ := (x.sig _ _ ha).2
  obtain ⟨us, pl', hs'⟩ := (x.sig _ _ hb).2
  exact eq_list_lengthsAt pl.isList pl'.isList (by simpa [hs.length, hs'.length] using hl) (by omega) (.here x (.bool _) h)

/-! data without objects -/
mutual
def pureP : Nat → PV → Bool
  | _, .none | _, .bool _ | _, .int _ | _, .str _ => true
  | n + 1, .tup ps => pureL n ps
  | _, _ => false
def pureL : Nat → List PV → Bool
  | _, [] => true
  | n, p :: ps => pureP n p && pureL n ps
end
mutual
theorem EqR.pure : ∀ (n : Nat) (p : PV), pureP n p = true → EqR σ n p p
  | n, .none, _ => .none n
  | n, .bool b, _ => .bool n b
  | n, .int i, _ => .int n i
  | n, .str x, _ => .str n x
  | n + 1, .tup ps, h => .tup (EqRL.pure n ps (by simpa [pureP] using h))
  | 0, .tup _, h => by simp [pureP] at h
  | n, .ref _, h => by cases n <;> simp [pureP] at h
  | n, .ty _, h => by cases n <;> simp [pureP] at h
theorem EqRL.pure : ∀ (n : Nat) (ps : List PV), pureL n ps = true → EqRL σ n ps ps
  | n, [], _ => .nil n
  | n, p :: ps, h => by
    rw [pureL, Bool.and_eq_true] at h
    exact .cons (EqR.pure n p h.1) (EqRL.pure n ps h.2)
end
theorem pureL_all {n : Nat} : ∀ {ps : List PV}, (∀ p ∈ ps, pureP n p = true) → pureL n ps = true
  | [], _ => by simp [pureL]
  | p :: ps, h => by rw [pureL, h p List.mem_cons_self, pureL_all fun q hq => h q (List.mem_cons_of_mem _ hq)]; rfl
theorem EqR.lists {n : Nat} {a b : Addr} {ps : List PV} (ha : σ a = some (.list ps)) (hb : σ b = some (.list ps)) (h : pureL n ps = true) : EqR σ (n + 1) (.ref a) (.ref b) := .list ha hb (EqRL.pure n ps h)

/-! in a list of texts, of ints -/
def isI (k : Int) : Value → Bool
  | .int z _ => decide (z = k)
  | _ => false
theorem any_ints {h : Heap} (k : Int) : ∀ {xs : List Int} {vs : List Value}, VRs h vs (xs.map .int) → vs.any (isI k) = decide (k ∈ xs)
  | [], vs, r => by rw [r.nil_inv]; simp
  | z :: zs, vs, r => by
    obtain ⟨v, ws, rfl, r, rs⟩ := VRs.cons_inv r
    cases r
    rw [List.any_cons, any_ints k rs]
    by_cases e : z = k
    · simp [e, isI]
    · have e' : ¬ k = z := fun h => e h.symm
      simp [e, e', isI]
theorem eqAt_ints {A : Around} {s : Shared} {k : Int} {t : Tok} {xs : List Int} {vs : List Value} (hs : VRs s.heap vs (xs.map .int)) (y : Value) (hy : y ∈ vs.toArray) : EqAt A s y (.int k t) (isI k y) := by
  obtain ⟨i, hi⟩ := List.mem_iff_getElem?.mp (by simpa using hy)
  obtain ⟨p, hp, r⟩ := hs.get' i y hi
  rw [List.getElem?_map] at hp
  obtain ⟨z, _, rfl⟩ := Option.map_eq_some_iff.mp hp
  cases r
  refine fun prog w E Q hq => wpAny_eqBool_int ?_
  rw [beq_dec]; exact hq
theorem Op2.notin_ints {l : Addr} {k : Int} {xs : List Int} (hl : σ l = some (.list (xs.map .int))) (h : Q (.bool (!decide (k ∈ xs))) σ) : OpCmp C .NotIn (.int k) (.ref l) ρ σ Q X := by
  refine ⟨fun s v u x hv hu => ?_⟩
  cases hv; cases hu
  obtain ⟨vs, pl, hs⟩ := (x.sig _ _ hl).2
  refine notIn_listAt (isI k) pl.isList (eqAt_ints hs) (.here x (.bool _) ?_)
  rw [List.any_toArray, any_ints k hs]; exact h
theorem Op2.notin_dict {d : Addr} {k : Str} {kvs : List (Str × PV)} (hd : σ d = some (.dict kvs)) (h : Q (.bool (!(dGet kvs k).isSome)) σ) : OpCmp C .NotIn (.str k) (.ref d) ρ σ Q X := by
  refine ⟨fun s v u x hv hu => ?_⟩
  cases hv; cases hu
  obtain ⟨hsm, ws, hm, dp⟩ := (x.sig _ _ hd).2
  refine wpAny_notIn_of (strKind_is _ _ _ _) hsm hm.mapOf (.tok x _ (.bool _) ?_)
  have e : (valueAt ws k).isSome = (dGet kvs k).isSome := by
    rcases dp.get k with ⟨h1, h2⟩ | ⟨_, _, h1, h2, _⟩ <;> rw [h1, h2] <;> rfl
  rw [e]; exact h

/-! calls of built-in functions and of types -/
theorem Ev.callB {f : Str} {id : String} {np pos : Pos} {args : List Expr} (ok : C.Ok) (hk : C.kd f = some .globalImplicit) (hg : C.S.mg f = Option.none) (hb : C.S.mb f = some (.builtin id)) (h : Evs C args ρ σ (fun ps σ₁ => OpN C (.builtin id) ps ρ σ₁ Q X) X)
    (hs : args.all noStar = true := by rfl) (hd : (f == ("__debug__" : Str)) = false := by decide) : Ev C (.Call (.Name f np) args [] pos) ρ σ Q X := by
  refine ⟨fun s x => ?_⟩
  refine wpAny_Call_ofName (wp_builtin ok x hk hg hb ?_ hd)
  have hp := starEach_plain args C.env pos hs
  refine Calls.callWith_builtin (List.any_eq_false.mpr fun y hy => by rw [hp y hy]; simp) (evalArgs_all hp ?_)
  refine wpAny_mono (h.run pos s x) (fun vs s₁ ⟨ps, σ₁, r, x₁, k₁, h₁⟩ => ?_) fun _ _ e => e
  exact wp_on k₁ (h₁.run s₁ vs x₁ r) fun _ _ p => p.step k₁
theorem Ev.callT {f : Str} {T : String} {np pos : Pos} {args : List Expr} (ok : C.Ok) (hk : C.kd f = some .globalImplicit) (hg : C.S.mg f = Option.none) (hb : C.S.mb f = some (.type T)) (h : Evs C args ρ σ (fun ps σ₁ => OpN C (.type T) ps ρ σ₁ Q X) X)
    (hs : args.all noStar = true := by rfl) (hd : (f == ("__debug__" : Str)) = false := by decide) : Ev C (.Call (.Name f np) args [] pos) ρ σ Q X := by
  refine ⟨fun s x => ?_⟩
  refine wpAny_Call_ofName (wp_builtin ok x hk hg hb ?_ hd)
  have hp := starEach_plain args C.env pos hs
  refine callWith_excType (List.any_eq_false.mpr fun y hy => by rw [hp y hy]; simp) (evalArgs_all hp ?_)
  refine wpAny_mono (h.run pos s x) (fun vs s₁ ⟨ps, σ₁, r, x₁, k₁, h₁⟩ => ?_) fun _ _ e => e
  exact wp_on k₁ (h₁.run s₁ vs x₁ r) fun _ _ p => p.step k₁

/-- of a type with these methods -/
def IsT (C : Cx) (T : String) (p : PV) (σ : Sig) : Prop := ∀ (ρ : Loc) (s : Shared) (v : Value), St C ρ σ s → VR s.heap v p → s.TypeIs v T ∧ (∀ a, v = .ref a → ∃ ob, s.heap.get? a = some ob ∧ ob.dict = none)
theorem IsT.list {l : Addr} {ps : List PV} (h : σ l = some (.list ps)) : IsT C "list" (.ref l) σ := by
  intro ρ s v x hv
  cases hv
  obtain ⟨vs, ⟨n, e⟩, hs⟩ := (x.sig _ _ h).2
  exact ⟨⟨_, e, rfl⟩, fun a q => by cases q; exact ⟨_, e, rfl⟩⟩
theorem IsT.dict {l : Addr} {kvs : List (Str × PV)} (h : σ l = some (.dict kvs)) : IsT C "dict" (.ref l) σ := by
  intro ρ s v x hv
  cases hv
  obtain ⟨_, ws, ⟨o, es, ep, e, hx, r⟩, _⟩ := (x.sig _ _ h).2
  exact ⟨⟨_, e, hx.1⟩, fun a q => by cases q; exact ⟨_, e, hx.2.1⟩⟩
theorem IsT.idict {l : Addr} {kvs : List (Int × PV)} (h : σ l = some (.idict kvs)) : IsT C "dict" (.ref l) σ := by
  intro ρ s v x hv
  cases hv
  obtain ⟨_, ws, ⟨o, es, ep, e, hx, r⟩, _⟩ := (x.sig _ _ h).2
  exact ⟨⟨_, e, hx.1⟩, fun a q => by cases q; exact ⟨_, e, hx.2.1⟩⟩

theorem Ev.method {o : Expr} {name : Str} {T id : String} {apos pos : Pos} {args : List Expr} (ok : C.Ok) (pa : PlainAttrs T) (slot : Slot T name id) (hty : typeOf (.builtin id) = pure (.type "method_descriptor"))
    (h : Ev C o ρ σ (fun p σ₁ => IsT C T p σ₁ ∧ Evs C args ρ σ₁ (fun ps σ₂ => OpN C (.builtin id) (p :: ps) ρ σ₂ Q X) X) X)
    (hs : args.all noStar = true := by rfl) (hlen : args.length < 20 := by decide) (hline : (apos.endLine == pos.line) = true := by rfl) (hbase : attributeBase o name C.env (eval o C.env) = eval o C.env := by rfl) :
    Ev C (.Call (.Attribute o name apos) args [] pos) ρ σ Q X := by
  refine ⟨fun s x => ?_⟩
  have hp := starEach_plain args C.env pos hs
  have hfew : ((backTo pos (starEach args C.env)).all (fun x => !x.1) && (backToKw pos (keywordEach [] C.env)).all (fun x => x.1.isSome)
      && decide (args.length + ([] : List Keyword).length + (if ([] : List Keyword).isEmpty then 0 else 1) < 30)) = true := by
    rw [Bool.and_eq_true, Bool.and_eq_true]
    refine ⟨⟨List.all_eq_true.mpr fun y hy => by rw [hp y hy]; rfl, rfl⟩, decide_eq_true ?_⟩
    show args.length + 0 + 0 < 30; omega
  refine wpAny_Call_method hbase hfew hline pa slot hty (wp_use (α := Unit) (h.run s x) (fun v s₁ p σ₁ r x₁ k₁ t₁ h₁ => ?_) x)
  obtain ⟨hT, hd⟩ := h₁.1 ρ s₁ v x₁ r
  refine ⟨hT, hd, ?_⟩
  refine Calls.callWith_builtin (List.any_eq_false.mpr fun y hy => by rw [hp y hy]; simp) (evalArgs_all hp ?_)
  refine wpAny_mono (h₁.2.run pos s₁ x₁) (fun vs s₂ ⟨ps, σ₂, rs, x₂, k₂, h₂⟩ => ?_) fun _ _ e => e.step k₁
  exact wp_on (k₁.trans k₂) (h₂.run s₂ (v :: vs) x₂ (.cons (r.mono (x₁.tup k₂.kept)) rs)) fun _ _ p => p.step (k₁.trans k₂)

theorem OpN.append {l : Addr} {ps : List PV} {p : PV} (ok : C.Ok) (hl : σ l = some (.list ps)) (hro : l ∉ C.ro) (hsz : ps.length ≤ 1000) (h : Q .none (σ.set l (.list (ps ++ [p])))) : OpN C (.builtin "list.append") [.ref l, p] ρ σ Q X := by
  refine ⟨fun s vs x hv => ?_⟩
  obtain ⟨v1, ws, rfl, r1, rs⟩ := hv.cons_inv
  obtain ⟨v2, ws, rfl, r2, rs⟩ := rs.cons_inv
  obtain rfl := rs.nil_inv
  cases r1
  obtain ⟨us, pl, hs⟩ := (x.sig _ _ hl).2
  refine wpAny_list_append_plain pl (fun h' pl' hs' => ?_) (by show us.toArray.size ≤ 2 ^ 24; rw [List.size_toArray, hs.length]; omega)
  have ext : ∀ b o, b ≠ l → s.heap.get? b = some o → h'.get? b = some o := fun b o hb e => hs'.extBut b o hb e
  have tk : TupKept s.heap h' := fun b us y => by
    by_cases q : b = l
    · subst q; exact (x.not_tup hl us y).elim
    · obtain ⟨ob, z, r⟩ := y; exact ⟨ob, ext b ob q z, r⟩
  refine Post.upd (t := s.toks) (.list (ps ++ [p])) ok x hl hro ext ⟨us ++ [v2], ?_, ((hs.mono tk).append (.cons (r2.mono tk) .nil))⟩ .none h
  simpa using pl'

theorem OpN.get {d : Addr} {k : Str} {kvs : List (Str × PV)} {dflt : PV} (hd : σ d = some (.dict kvs)) (h : Q ((dGet kvs k).getD dflt) σ) : OpN C (.builtin "dict.get") [.ref d, .str k, dflt] ρ σ Q X := by
  refine ⟨fun s vs x hv => ?_⟩
  obtain ⟨v1, ws, rfl, r1, rs⟩ := hv.cons_inv
  obtain ⟨v2, ws, rfl, r2, rs⟩ := rs.cons_inv
  obtain ⟨v3, ws, rfl, r3, rs⟩ := rs.cons_inv
  obtain rfl := rs.nil_inv
  cases r1; cases r2
  obtain ⟨hsm, ws, hm, dp⟩ := (x.sig _ _ hd).2
  refine call_meetsIn F.slot_dict_get hm.typeIs F.entry_dict_get (F.args_dict_get_3 _ _ _) (meets_dict_get_default (strKind _ _) d (strKind_is _ _ _ _) hsm v3) ⟨_, hm.mapOf, ?_⟩
  rcases dp.get k with ⟨h1, h2⟩ | ⟨v, p, h1, h2, r⟩
  · rw [h1]; rw [h2] at h; exact .tok x _ r3 h
  · rw [h1]; rw [h2] at h; exact .tok x _ r h

theorem OpN.items {d : Addr} {kvs : List (Str × PV)} (hd : σ d = some (.dict kvs)) (h : ∀ a, σ a = none → Q (.ref a) (σ.set a (.items d))) : OpN C (.builtin "dict.items") [.ref d] ρ σ Q X := by
  refine ⟨fun s vs x hv => ?_⟩
  obtain ⟨v1, ws, rfl, r1, rs⟩ := hv.cons_inv
  obtain rfl := rs.nil_inv
  cases r1
  obtain ⟨hsm, ws, hm, dp⟩ := (x.sig _ _ hd).2
  refine call_meetsIn F.slot_dict_items hm.typeIs F.entry_dict_items (F.args_dict_items_1 _) (meets_dict_items (strKind _ _) d hsm) ⟨⟨_, hm⟩, ?_⟩
  exact Post.alloc (t := s.toks) (.items d) x (fun b o e => Heap.get?_push_of_some _ e) (heap_fresh _) ⟨_, Heap.get?_push_size _ rfl, rfl, rfl⟩ (h _)

/-- list(d.items()) -/
def pairs {K : Type} (enc : K → PV) (kvs : List (K × PV)) : List PV := kvs.map fun kv => .tup [enc kv.1, kv.2]
theorem DP.at {K : Type} {h : Heap} {ws : List (K × Value)} {kvs : List (K × PV)} (x : DP h ws kvs) : ∀ {j : Nat} {k : K} {v : Value}, ws[j]? = some (k, v) → ∃ p, kvs[j]? = some (k, p) ∧ VR h v p := by
  induction x with
  | nil => intro j k v e; simp at e
  | cons e _ ih =>
    intro j k v q
    cases j with
    | zero => simp at q; obtain ⟨rfl, rfl⟩ := q; exact ⟨_, rfl, e⟩
    | succ j => simpa using ih (by simpa using q)
theorem VRs.of_get {h : Heap} : ∀ {vs : List Value} {ps : List PV}, vs.length = ps.length → (∀ (j : Nat) (v : Value) (p : PV), vs[j]? = some v → ps[j]? = some p → VR h v p) → VRs h vs ps
  | [], [], _, _ => .nil
  | [], _ :: _, h, _ => by simp at h
  | _ :: _, [], h, _ => by simp at h
  | v :: vs, p :: ps, h, g => .cons (g 0 v p rfl rfl) (VRs.of_get (by simpa using h) fun j v p a b => g (j + 1) v p (by simpa using a) (by simpa using b))

theorem kdx_pairs_rep {K : Type} [DecidableEq K] {prog : Program} {w : World} {knd : KeyKind prog w K} {enc : K → PV} (henc : ∀ k key h, knd.is k key = true → VR h key (enc k)) {h h' : Heap} {ws : List (K × Value)} {kvs : List (K × PV)} {lo : Addr} {as : List Addr}
    (dp : DP h' ws kvs) (hl : as.length = ws.length) (g : PySem.W.KdxG knd ws lo h' as) : VRs h' (as.map Value.ref) (pairs enc kvs) := by
  refine VRs.of_get (by simp [pairs, hl, dp.length]) fun j v p hv hp => ?_
  rw [List.getElem?_map] at hv
  obtain ⟨a, ha, rfl⟩ := Option.map_eq_some_iff.mp hv
  obtain ⟨key, k, x, hk, his, hobj⟩ := g.pairs j a ha
  obtain ⟨q, hq, r⟩ := dp.at hk
  rw [pairs, List.getElem?_map, hq] at hp
  cases hp
  exact .tup (vs := [key, x]) ⟨_, hobj, rfl, _, rfl⟩ (.cons (henc k key h' his) (.cons r .nil))

theorem OpN.list_items {v d : Addr} {kvs : List (Str × PV)} (ok : C.Ok) (hv : σ v = some (.items d)) (hd : σ d = some (.dict kvs)) (hsz : kvs.length ≤ 1000) (h : ∀ a, σ a = none → Q (.ref a) (σ.set a (.list (pairs .str kvs)))) :
    OpN C (.type "list") [.ref v] ρ σ Q X := by
  refine ⟨fun s vs x hvs => ?_⟩
  obtain ⟨v1, ws, rfl, r1, rs⟩ := hvs.cons_inv
  obtain rfl := rs.nil_inv
  cases r1
  have hvw : s.heap.IsItemsView v d := (x.sig _ _ hv).2
  obtain ⟨hsm, ws, hm, dp⟩ := (x.sig _ _ hd).2
  obtain ⟨ep, hm'⟩ := hm.dictAt
  refine PySem.W.kdx_call (knd := strKind C.S.prog C.S.w) ok.hh hvw hm' (by rw [dp.length]; show _ ≤ 2 ^ 24; omega) fun h' tk acc c as hk hS hl hG hacc => ?_
  have e : acc = (as.map Value.ref).toArray := by rw [← hacc]
  refine Post.alloc (t := tk) (.list (pairs .str kvs)) x hk (heap_fresh _) ⟨as.map Value.ref, ⟨c, by rw [← e]; exact hS⟩, kdx_pairs_rep (h := s.heap) (fun k key h his => ?_) (dp.mono (.of_ext hk)) hl hG⟩ (h _)
  obtain ⟨t, rfl⟩ := Value.isStrOf_shape his
  exact .str _ _
theorem OpN.range1 {n : Int} (h : ∀ a, σ a = none → Q (.ref a) (σ.set a (.range 0 n))) : OpN C (.type "range") [.int n] ρ σ Q X := by
  refine ⟨fun s vs x hv => ?_⟩
  obtain ⟨v1, ws, rfl, r1, rs⟩ := hv.cons_inv
  obtain rfl := rs.nil_inv
  cases r1
  exact call_range_1 (Post.alloc (.range 0 n) x (fun b o e => Heap.get?_push_of_some _ e) (heap_fresh _) ⟨_, _, _, Heap.get?_push_size _ rfl⟩ (h _))
theorem OpN.len_list {l : Addr} {ps : List PV} (hl : σ l = some (.list ps)) (hsz : ps.length ≤ 100000) (h : Q (.int ps.length) σ) : OpN C (.builtin "len") [.ref l] ρ σ Q X := by
  refine ⟨fun s vs x hv => ?_⟩
  obtain ⟨v1, ws, rfl, r1, rs⟩ := hv.cons_inv
  obtain rfl := rs.nil_inv
  cases r1
  obtain ⟨us, pl, hs⟩ := (x.sig _ _ hl).2
  have e : us.toArray.size = ps.length := by rw [List.size_toArray, hs.length]
  exact Calls.call_len_list pl.isList (by rw [e]; omega) (by rw [e]; exact .tok x _ (.int _ _) h)
theorem OpN.len_base {l : Addr} {us : List Value} {n : Nat} (hl : C.S.base.IsList l us.toArray) (hn : us.length = n) (hsz : n ≤ 100000) (h : Q (.int n) σ) : OpN C (.builtin "len") [.ref l] ρ σ Q X := by
  refine ⟨fun s vs x hv => ?_⟩
  obtain ⟨v1, ws, rfl, r1, rs⟩ := hv.cons_inv
  obtain rfl := rs.nil_inv
  cases r1
  obtain ⟨o, e, r⟩ := hl
  have hl' : s.heap.IsList l us.toArray := ⟨o, x.base _ _ e, r⟩
  have e : us.toArray.size = n := by rw [List.size_toArray, hn]
  exact Calls.call_len_list hl' (by rw [e]; omega) (by rw [e]; exact .tok x _ (.int _ _) h)
theorem OpN.len_dict {d : Addr} {kvs : List (Str × PV)} (hd : σ d = some (.dict kvs)) (hsz : kvs.length ≤ 100000) (h : Q (.int kvs.length) σ) : OpN C (.builtin "len") [.ref d] ρ σ Q X := by
  refine ⟨fun s vs x hv => ?_⟩
  obtain ⟨v1, ws, rfl, r1, rs⟩ := hv.cons_inv
  obtain rfl := rs.nil_inv
  cases r1
  obtain ⟨hsm, ws, hm, dp⟩ := (x.sig _ _ hd).2
  exact call_len_dict hsm hm (by rw [dp.length]; omega) (by rw [dp.length]; exact .tok x _ (.int _ _) h)
end
end SR

set_option maxRecDepth 100000
set_option linter.unusedVariables false
set_option linter.unusedSectionVars false
namespace SR
open PySem

/-! where the text's defs lie -/
def stAt (p : Program) (i : Nat) : Option Stmt := p.main.body[i]?
def bodyOf : Option Stmt → List Stmt
  | some (.FunctionDef (body := b) ..) => b
  | _ => []
def scopeOf : Option Stmt → Scope
  | some (.FunctionDef (scope := s) ..) => s
  | _ => default

structure Gh where
  A : Around
  env : Env
  own : List Addr
  frs : List Env
def kdOf (sc : Scope) (x : Str) : Option NameKind := sc.names.lookup x
def mkC (S : Sx) (sc : Scope) (ro : List Addr) (room : Nat) (g : Gh) : Cx := ⟨S, kdOf sc, ro, room, g.A, g.env, g.own, g.frs⟩

/-- the def f lies at fa, with this body, these names and parameters -/
def FnAt (S : Sx) (f : Str) (fa : Addr) (body : List Stmt) (sc : Scope) (xs : List Str) : Prop :=
  ∃ fd, IsFn S f fa fd ∧ fd.body = .stmts body ∧ fd.scope = sc ∧ fd.closure = [] ∧ fd.globals = mainGlobals ∧ fd.builtins = builtinsNs ∧ ∀ vs : List Value, vs.length = xs.length → bindArgs fd ⟨vs, []⟩ = pure (xs.zip vs)

def retv : Fl → PV
  | .ret p => p
  | _ => .none

structure ScOk (sc : Scope) (xs : List Str) : Prop where
  params : (xs.all fun x => sc.names.lookup x == some .local || sc.names.lookup x == some .cell) = true
  cells : ((cellsFrom 0 sc.names []).map (·.1)).Nodup
  kind : sc.kind = .function
  co : sc.isCoroutine = false
  gen : sc.isGenerator = false

section
variable {S : Sx} {σ : Sig} {Q : PV → Sig → Prop} {ro : List Addr}
theorem Fn.at {f : Str} {fa : Addr} {body : List Stmt} {sc : Scope} {xs : List Str} {room : Nat} {ps : List PV} (oS : S.Ok) (hf : FnAt S f fa body sc xs) (so : ScOk sc xs) (hlen : ps.length = xs.length)
    (h : ∀ g, (mkC S sc ro room g).Ok → (∀ x, kdOf sc x = some .cell → (g.env.cells.lookup x).isSome) → Exs (mkC S sc ro room g) body (Loc.nil.bind (xs.zip ps)) σ (fun fl _ σ' => Q (retv fl) σ') noX) :
    Fn S fa ro (room + 1) ps σ Q := by
  obtain ⟨fd, hI, hb, rfl, hcl, hg, hbt, hbind⟩ := hf
  refine Fn.body oS hI hb hcl hg hbt hlen hbind so.params so.cells so.kind so.co so.gen fun A frs L ok => ?_
  have := h ⟨A.deeper (calleeEnv fd L fa), calleeEnv fd L fa, (calleeCx S fd ro room A frs L fa).own, calleeEnv fd L fa :: frs⟩ ok fun x hx => PySem.W.cellsFrom_some _ _ _ (.inl hx)
  refine ⟨TrS.mono this.run fun fl ρ' σ' hq => ?_⟩
  cases fl <;> exact hq
theorem Fn.room {fa : Addr} {r r' : Nat} {ps : List PV} (h : Fn S fa ro r ps σ Q) (hr : r ≤ r') : Fn S fa ro r' ps σ Q := fun A frs s vs rm g v =>
  h A frs s vs ⟨rm.hh, by have := rm.depth; omega, by have := rm.units; omega, rm.frames⟩ g v
end

section
variable {C : Cx} {ρ : Loc} {σ : Sig} {X : String → Sig → Prop} {Q : PV → Sig → Prop}
theorem Ev.callF {f : Str} {fa : Addr} {body : List Stmt} {sc : Scope} {xs : List Str} {np pos : Pos} {args : List Expr} (ok : C.Ok) (hf : FnAt C.S f fa body sc xs) (hk : C.kd f = some .globalImplicit) (h : Evs C args ρ σ (fun ps σ₁ => Fn C.S fa C.ro C.room ps σ₁ Q) X)
    (hs : args.all noStar = true := by rfl) (hd : (f == ("__debug__" : Str)) = false := by decide) : Ev C (.Call (.Name f np) args [] pos) ρ σ Q X := by
  obtain ⟨fd, hI, _⟩ := hf
  exact Ev.call ok hI hk h hs hd
end

/-- the script: a list of ints that stood before the call -/
def Script (S : Sx) (sa : Addr) (ns : List Int) : Prop := ∃ vs : List Value, S.base.IsList sa vs.toArray ∧ VRs S.base vs (ns.map .int)
/-- its cell, or the default -/
def cell (ns : List Int) (k : Int) : Int := ns.getD k.toNat 0

theorem vrs_of_ints {h : Heap} {vs : List Value} {ns : List Int} (hi : PyProof.Rows.IntsAre vs ns) : VRs h vs (ns.map .int) := by
  induction hi with
  | nil => exact .nil
  | cons _ _ _ ih => exact .cons (.int _ _) ih

/-- the law's own world -/
def lawS (prog : Program) (w : World) (s₁ : Shared) (mg mb : Str → Option Value) : Sx := ⟨prog, w, s₁.heap, mg, mb, s₁.os, fun g => g = #[]⟩
theorem lawS_ok {prog : Program} {w : World} {s₁ : Shared} {mg mb : Str → Option Value} (hg : s₁.heap.Ns mainGlobals mg) (hb : s₁.heap.Ns builtinsNs mb) (hn : s₁.heap.NoLimit) : (lawS prog w s₁ mg mb).Ok := ⟨hg, hb, hn⟩

/-- a name of the module's, by its dict -/
theorem mg_at {h : Heap} {mg : Str → Option Value} (hg : h.Ns mainGlobals mg) {o : Obj} {es : Array DictEntry} {ep : Nat} (ho : h.get? mainGlobals = some o) (hd : o.data = .dict es ep) (x : Str) : mg x = nsFind es x := by
  obtain ⟨o', es', ep', ho', hd', _, hm⟩ := hg
  rw [ho] at ho'; cases ho'
  rw [hd] at hd'; cases hd'
  exact (hm x).symm
end SR

set_option maxRecDepth 100000
set_option linter.unusedVariables false
set_option linter.unusedSectionVars false
namespace SR
open PySem

/-! stocks: names with ints -/
def sd (l : List (Str × Int)) : List (Str × PV) := l.map fun x => (x.1, .int x.2)
def sGet (l : List (Str × Int)) (k : Str) : Option Int := (l.find? fun x => x.1 = k).map (·.2)
def sSet (l : List (Str × Int)) (k : Str) (i : Int) : List (Str × Int) :=
  if (l.any fun x => decide (x.1 = k)) = true then l.map fun x => if x.1 = k then (x.1, i) else x else l ++ [(k, i)]
def sDel (l : List (Str × Int)) (k : Str) : List (Str × Int) := l.filter fun x => decide (x.1 ≠ k)
def sRecv (l : List (Str × Int)) (k : Str) (n : Int) : List (Str × Int) := sSet l k ((sGet l k).getD 0 + n)
def row (x : Str × Int) : PV := .tup [.str x.1, .int x.2]
def rows (l : List (Str × Int)) : List PV := l.map row

theorem sd_get (l : List (Str × Int)) (k : Str) : dGet (sd l) k = (sGet l k).map .int := by
  induction l with
  | nil => rfl
  | cons x l ih =>
    by_cases h : x.1 = k
    · simp [dGet, sd, sGet, h]
    · simpa [dGet, sd, sGet, h] using ih
theorem sd_any (l : List (Str × Int)) (k : Str) : ((sd l).any fun kv => decide (kv.1 = k)) = l.any fun x => decide (x.1 = k) := by
  simp [sd, List.any_map, Function.comp_def]
theorem sd_set (l : List (Str × Int)) (k : Str) (i : Int) : dSet (sd l) k (.int i) = sd (sSet l k i) := by
  unfold dSet sSet
  rw [sd_any]
  split
  · simp only [sd, List.map_map]
    refine List.map_congr_left fun x _ => ?_
    by_cases h : x.1 = k <;> simp [h]
  · simp [sd]
theorem sd_del (l : List (Str × Int)) (k : Str) : dDel (sd l) k = sd (sDel l k) := by
  simp [dDel, sd, sDel, List.filter_map, Function.comp_def]
theorem sd_pairs (l : List (Str × Int)) : pairs PV.str (sd l) = rows l := by
  simp [pairs, sd, rows, row, List.map_map, Function.comp_def]
theorem sd_length (l : List (Str × Int)) : (sd l).length = l.length := by simp [sd]
theorem rows_length (l : List (Str × Int)) : (rows l).length = l.length := by simp [rows]
theorem rows_pure (l : List (Str × Int)) : pureL 1 (rows l) = true := pureL_all fun p hp => by
  obtain ⟨x, _, rfl⟩ := List.mem_map.mp hp
  simp [row, pureP, pureL]
theorem rows_append (l m : List (Str × Int)) : rows (l ++ m) = rows l ++ rows m := by simp [rows]
theorem sSet_length_le (l : List (Str × Int)) (k : Str) (i : Int) : (sSet l k i).length ≤ l.length + 1 := by
  unfold sSet; split <;> simp
theorem sSet_new {l : List (Str × Int)} {k : Str} (i : Int) (h : k ∉ l.map (·.1)) : sSet l k i = l ++ [(k, i)] := by
  unfold sSet
  rw [if_neg]
  rw [List.any_eq_true]; rintro ⟨x, hx, e⟩
  exact h (List.mem_map.mpr ⟨x, hx, by simpa using e⟩)

structure Bi (S : Sx) (x : String) (v : Value) : Prop where
  g : S.mg (Str.ofString x) = none
  b : S.mb (Str.ofString x) = some v

section
variable {C : Cx} {ρ : Loc} {σ : Sig} {X : String → Sig → Prop} {Q : PV → Sig → Prop}
theorem OpN.sget {d : Addr} {k : Str} {l : List (Str × Int)} {i : Int} (hd : σ d = some (.dict (sd l))) (h : Q (.int ((sGet l k).getD i)) σ) : OpN C (.builtin "dict.get") [.ref d, .str k, .int i] ρ σ Q X := by
  refine OpN.get hd ?_
  rw [sd_get]
  cases e : sGet l k with
  | none => rw [e] at h; exact h
  | some j => rw [e] at h; exact h
end

/-! loops by invariants -/
def LSub (ρ₀ ρ : Loc) : Prop := ∀ y p, ρ₀ y = some p → ρ y = some p
theorem LSub.refl (ρ : Loc) : LSub ρ ρ := fun _ _ h => h
theorem LSub.set {ρ₀ ρ : Loc} {x : Str} {v : PV} (h : ρ₀ x = none) (k : LSub ρ₀ ρ) : LSub ρ₀ (ρ.set x v) := fun y p e => by
  simp only [Loc.set]
  split
  · next q => subst q; rw [h] at e; cases e
  · exact k y p e
section
variable {C : Cx} {ρ : Loc} {σ : Sig} {X : String → Sig → Prop} {Q : Fl → Loc → Sig → Prop}
theorem TrS.weaken {t : Sem Flow} (h : TrS C t ρ σ (fun fl ρ₂ σ₂ => ∃ ρ₁ σ₁, LSub ρ₁ ρ₂ ∧ Sub σ₁ σ₂ ∧ Q fl ρ₁ σ₁) X) : TrS C t ρ σ Q X := fun s x =>
  wpAny_mono (h s x) (fun f s' ⟨fl, ρ₂, σ₂, h1, h2, h3, ρ₁, σ₁, h4, h5, h6⟩ => ⟨fl, ρ₁, σ₁, h1, h2.drop h4 h5, h3.dropR h5, h6⟩) fun _ _ e => e
theorem Exs.drop {st : List Stmt} {ρ₀ : Loc} {σ₀ : Sig} (h : Exs C st ρ₀ σ₀ Q X) (hρ : LSub ρ₀ ρ) (hσ : Sub σ₀ σ) : Exs C st ρ σ Q X := ⟨TrS.drop h.run hρ hσ⟩

theorem ForL.inv {tgt : Expr} {body : List Stmt} : ∀ (pvs : List PV) (ρ : Loc) (σ : Sig) (I : Nat → Loc → Sig → Prop), I 0 ρ σ →
    (∀ i p ρ σ, pvs[i]? = some p → I i ρ σ → ∃ ρ₁, Bind1 C tgt p ρ ρ₁ ∧ Exs C body ρ₁ σ (fun fl ρ₂ σ₂ => match fl with
      | .next | .cont => ∃ ρ₃ σ₃, LSub ρ₃ ρ₂ ∧ Sub σ₃ σ₂ ∧ I (i + 1) ρ₃ σ₃
      | .brk => Q .next ρ₂ σ₂
      | .ret v => Q (.ret v) ρ₂ σ₂) noX) →
    (∀ ρ σ, I pvs.length ρ σ → Q .next ρ σ) → ForL C tgt body pvs ρ σ Q
  | [], ρ, σ, I, h0, _, hend => hend ρ σ h0
  | p :: ps, ρ, σ, I, h0, hstep, hend => by
    obtain ⟨ρ₁, hb, hbody⟩ := hstep 0 p ρ σ rfl h0
    refine ⟨ρ₁, hb, ⟨TrS.weaken (TrS.mono hbody.run fun fl ρ₂ σ₂ h => ?_)⟩⟩
    have goon : (∃ ρ₃ σ₃, LSub ρ₃ ρ₂ ∧ Sub σ₃ σ₂ ∧ I (0 + 1) ρ₃ σ₃) → ∃ ρ₃ σ₃, LSub ρ₃ ρ₂ ∧ Sub σ₃ σ₂ ∧ ForL C tgt body ps ρ₃ σ₃ Q := fun ⟨ρ₃, σ₃, h1, h2, h3⟩ =>
      ⟨ρ₃, σ₃, h1, h2, ForL.inv ps ρ₃ σ₃ (fun i => I (i + 1)) h3 (fun i q ρ σ hq hI => hstep (i + 1) q ρ σ (by simpa using hq) hI) fun ρ σ h => hend ρ σ h⟩
    cases fl with
    | next => exact goon h
    | cont => exact goon h
    | brk => exact ⟨ρ₂, σ₂, .refl _, .refl _, h⟩
    | ret v => exact ⟨ρ₂, σ₂, .refl _, .refl _, h⟩
theorem intsFrom_length (a : Int) (n : Nat) : (intsFrom a n).length = n := by
  induction n generalizing a with
  | zero => rfl
  | succ n ih => simp [intsFrom, ih]
theorem intsFrom_get {n i : Nat} : ∀ {a : Int} {p : PV}, (intsFrom a n)[i]? = some p → i < n ∧ p = .int (a + i) := by
  induction n generalizing i with
  | zero => intro a p h; simp [intsFrom] at h
  | succ n ih =>
    intro a p h
    cases i with
    | zero => simp [intsFrom] at h; exact ⟨Nat.succ_pos _, by simp [h]⟩
    | succ i =>
      obtain ⟨h1, h2⟩ := ih (by simpa [intsFrom] using h)
      exact ⟨Nat.succ_lt_succ h1, by rw [h2]; congr 1; omega⟩
end

theorem seqIndex_pos {k : Int} {n : Nat} (h0 : 0 ≤ k) (h1 : k < n) : seqIndex? k n = some k.toNat := by
  unfold seqIndex?
  have : ¬ k < 0 := by omega
  simp [this, h0, h1]
section
variable {C : Cx} {ρ : Loc} {σ : Sig} {X : String → Sig → Prop} {Q : PV → Sig → Prop}
/-- an item of a written table of texts -/
theorem OpS.tab {value slice : Expr} {xs : List Str} {k : Int} (h0 : 0 ≤ k) (h1 : k < xs.length) (h2 : xs.length ≤ 1000) (h : Q (.str (xs.getD k.toNat Str.empty)) σ) (hs : noSlice slice = true := by rfl) : OpS C value slice (.tup (xs.map .str)) (.int k) ρ σ Q X := by
  refine OpS.tuple (j := k.toNat) (p := .str (xs.getD k.toNat Str.empty)) (seqIndex_pos h0 (by simpa using h1)) ?_ (by omega) (by omega) h hs
  have : k.toNat < xs.length := by omega
  simp [List.getElem?_map, this]
/-- x % m for a written m -/
theorem mod_bounds (a : Int) {m : Int} (hm : 0 < m) : 0 ≤ a % m ∧ a % m < m := ⟨Int.emod_nonneg a (Int.ne_of_gt hm), Int.emod_lt_of_pos a hm⟩
end

section
variable {S : Sx} {sc : Scope} {ro ro' : List Addr} {room : Nat} {g : Gh} {ρ : Loc} {σ : Sig} {X : String → Sig → Prop} {Q : Fl → Loc → Sig → Prop}
theorem okRo (ok : (mkC S sc ro room g).Ok) (ro' : List Addr) : (mkC S sc ro' room g).Ok := ⟨ok.S, ok.hh, ok.depth, ok.units, ok.kind, ok.globals, ok.builtins, ok.kinds, ok.loc, ok.cells, ok.apart, ok.new, ok.frames⟩
end

theorem ifF {b : Bool} {P Q : Prop} (h : b = false) (hq : Q) : if b = true then P else Q := by rw [h]; simpa using hq
theorem ifT {b : Bool} {P Q : Prop} (h : b = true) (hp : P) : if b = true then P else Q := by rw [h]; simpa using hp
theorem fresh_ne {σ : Sig} {a b : Addr} {o : AO} (ha : σ a = none) (hb : σ b = some o) : b ≠ a := fun e => by subst e; rw [ha] at hb; cases hb
section
variable {C : Cx} {ρ : Loc} {σ : Sig} {X : String → Sig → Prop} {Q : PV → Sig → Prop}
theorem Tr.weaken {t : Sem Value} (h : Tr C t ρ σ (fun p σ₂ => ∃ σ₁, Sub σ₁ σ₂ ∧ Q p σ₁) X) : Tr C t ρ σ Q X := fun s x =>
  wpAny_mono (h s x) (fun f s' ⟨p, σ₂, h1, h2, h3, σ₁, h5, h6⟩ => ⟨p, σ₁, h1, h2.drop (fun _ _ e => e) h5, h3.dropR h5, h6⟩) fun _ _ e => e
theorem Ev.weaken {e : Expr} (h : Ev C e ρ σ (fun p σ₂ => ∃ σ₁, Sub σ₁ σ₂ ∧ Q p σ₁) X) : Ev C e ρ σ Q X := ⟨Tr.weaken h.run⟩
theorem Ev.mono {e : Expr} {Q' : PV → Sig → Prop} (h : Ev C e ρ σ Q' X) (hQ : ∀ p σ', Q' p σ' → Q p σ') : Ev C e ρ σ Q X := ⟨Tr.mono h.run hQ⟩
/-- list(x.items()) -/
theorem Ev.listItems {o : Expr} {np apos p2 pos : Pos} (ok : C.Ok) (hk : C.kd (Str.ofString "list") = some .globalImplicit) (hl : Bi C.S "list" (.type "list"))
    (h : Ev C o ρ σ (fun p σ₁ => ∃ d kvs, p = .ref d ∧ σ₁ d = some (.dict kvs) ∧ kvs.length ≤ 1000 ∧ ∀ b, σ₁ b = none → Q (.ref b) (σ₁.set b (.list (pairs .str kvs)))) X)
    (hline : (apos.endLine == p2.line) = true := by rfl) (hbase : attributeBase o (Str.ofString "items") C.env (eval o C.env) = eval o C.env := by rfl) :
    Ev C (.Call (.Name (Str.ofString "list") np) [.Call (.Attribute o (Str.ofString "items") apos) [] [] p2] [] pos) ρ σ Q X := by
  refine Ev.weaken (Ev.callT ok hk hl.g hl.b (Evs.cons (Ev.method ok F.plainAttrs_dict F.slot_dict_items F.type_dict_items (Ev.mono h ?_) rfl (by decide) hline hbase)))
  rintro p σ₁ ⟨d, kvs, rfl, hd, hsz, hq⟩
  refine ⟨IsT.dict hd, Evs.nil (OpN.items hd fun a ha => Evs.nil ?_)⟩
  have had := fresh_ne ha hd
  refine OpN.list_items ok (Sig.set_self _ _ _) (by rw [Sig.set_ne _ _ had]; exact hd) hsz fun b hb => ⟨σ₁.set b (.list (pairs .str kvs)), Sub.set_both (Sub.set ha), hq b ?_⟩
  have : b ≠ a := fun e => by subst e; rw [Sig.set_self] at hb; cases hb
  rw [Sig.set_ne _ _ this] at hb; exact hb
end

theorem sGet_append (l m : List (Str × Int)) (k : Str) : sGet (l ++ m) k = (sGet l k).or (sGet m k) := by
  unfold sGet; rw [List.find?_append]; cases (l.find? fun x => decide (x.1 = k)) <;> simp
theorem sGet_sSet_self (l : List (Str × Int)) (k : Str) (i : Int) : sGet (sSet l k i) k = some i := by
  unfold sSet
  split
  · next h =>
    induction l with
    | nil => simp at h
    | cons x l ih =>
      by_cases hx : x.1 = k
      · simp [sGet, hx]
      · have h' : (l.any fun x => decide (x.1 = k)) = true := by simpa [hx] using h
        simpa [sGet, hx] using ih h'
  · next h =>
    have : sGet l k = none := by
      simp only [sGet, Option.map_eq_none_iff, List.find?_eq_none]
      intro x hx e
      exact h (List.any_eq_true.mpr ⟨x, hx, e⟩)
    rw [sGet_append, this]; simp [sGet]
section
variable {C : Cx} {ρ : Loc} {σ : Sig} {X : String → Sig → Prop} {Q : PV → Sig → Prop}
theorem OpS.sdict {value slice : Expr} {d : Addr} {l : List (Str × Int)} {k : Str} {i : Int} (hd : σ d = some (.dict (sd l))) (hi : sGet l k = some i) (h : Q (.int i) σ) (hs : noSlice slice = true := by rfl) :
    OpS C value slice (.ref d) (.str k) ρ σ Q X := OpS.dict hd (by rw [sd_get, hi]; rfl) h hs
end

theorem fa_of {x y : Addr} (h : some (Value.ref x) = some (Value.ref y)) : y = x := by cases h; rfl
theorem len1 {P : List Value → Prop} (h : ∀ a, P [a]) : ∀ vs, vs.length = 1 → P vs := by
  intro vs q
  rcases vs with _ | ⟨a, _ | ⟨b, vs⟩⟩ <;> first | exact h _ | cases q
theorem len2 {P : List Value → Prop} (h : ∀ a b, P [a, b]) : ∀ vs, vs.length = 2 → P vs := by
  intro vs q
  rcases vs with _ | ⟨a, _ | ⟨b, _ | ⟨c, vs⟩⟩⟩ <;> first | exact h _ _ | cases q
theorem len3 {P : List Value → Prop} (h : ∀ a b c, P [a, b, c]) : ∀ vs, vs.length = 3 → P vs := by
  intro vs q
  rcases vs with _ | ⟨a, _ | ⟨b, _ | ⟨c, _ | ⟨d, vs⟩⟩⟩⟩ <;> first | exact h _ _ _ | cases q
theorem len4 {P : List Value → Prop} (h : ∀ a b c d, P [a, b, c, d]) : ∀ vs, vs.length = 4 → P vs := by
  intro vs q
  rcases vs with _ | ⟨a, _ | ⟨b, _ | ⟨c, _ | ⟨d, _ | ⟨e, vs⟩⟩⟩⟩⟩ <;> first | exact h _ _ _ _ | cases q
end SR

set_option maxRecDepth 100000
set_option linter.unusedVariables false
set_option linter.unusedSectionVars false
set_option linter.unusedSimpArgs false
namespace SR
open PySem

section
variable {C : Cx} {ρ : Loc} {σ : Sig} {X : String → Sig → Prop} {Q : PV → Sig → Prop}

/-- an update of a dict of the signature -/
theorem Post.dict {s : Shared} {h' : Heap} {t : Nat} {d : Addr} {kvs kvs' : List (Str × PV)} {ws' : List (Str × Value)} {v : Value} {p : PV} (ok : C.Ok) (x : St C ρ σ s) (hd : σ d = some (.dict kvs)) (hro : d ∉ C.ro)
    (hs' : Heap.SameBut d s.heap h') (hm' : h'.DictOf (strKind C.S.prog C.S.w) d ws') (dp' : TupKept s.heap h' → DP h' ws' kvs') (hv : TupKept s.heap h' → VR h' v p) (h : Q p (σ.set d (.dict kvs'))) : Post C ρ σ s Q v { s with heap := h', toks := t } := by
  have ext : ∀ b o, b ≠ d → s.heap.get? b = some o → h'.get? b = some o := fun b o hb e => hs'.extBut b o hb e
  have tk : TupKept s.heap h' := fun b us y => by
    by_cases q : b = d
    · subst q; exact (x.not_tup hd us y).elim
    · obtain ⟨ob, z, r⟩ := y; exact ⟨ob, ext b ob q z, r⟩
  obtain ⟨hsm, _⟩ := (x.sig d _ hd).2
  exact Post.upd (.dict kvs') ok x hd hro ext ⟨hsm, ws', hm', dp' tk⟩ (hv tk) h

theorem OpN.clear {d : Addr} {kvs : List (Str × PV)} (ok : C.Ok) (hd : σ d = some (.dict kvs)) (hro : d ∉ C.ro) (hsz : kvs.length ≤ 1000) (h : Q .none (σ.set d (.dict []))) : OpN C (.builtin "dict.clear") [.ref d] ρ σ Q X := by
  refine ⟨fun s vs x hv => ?_⟩
  obtain ⟨v1, ws, rfl, r1, rs⟩ := hv.cons_inv
  obtain rfl := rs.nil_inv
  cases r1
  obtain ⟨hsm, ws, hm, dp⟩ := (x.sig _ _ hd).2
  refine call_meetsIn F.slot_dict_clear hm.typeIs F.entry_dict_clear (F.args_dict_clear_1 _) (meets_dict_clear (strKind _ _) d) ⟨ws, hm, by rw [dp.length]; show _ ≤ 2 ^ 24; omega, fun h' hm' hs' => ?_⟩
  exact Post.dict (t := s.toks) ok x hd hro hs' hm' (fun _ => .nil) (fun _ => .none) h
theorem OpN.pop {d : Addr} {kvs : List (Str × PV)} {k : Str} {p : PV} (ok : C.Ok) (hd : σ d = some (.dict kvs)) (hro : d ∉ C.ro) (hsz : kvs.length ≤ 1000) (hp : dGet kvs k = some p) (h : Q p (σ.set d (.dict (dDel kvs k)))) : OpN C (.builtin "dict.pop") [.ref d, .str k] ρ σ Q X := by
  refine ⟨fun s vs x hv => ?_⟩
  obtain ⟨v1, ws, rfl, r1, rs⟩ := hv.cons_inv
  obtain ⟨v2, ws, rfl, r2, rs⟩ := rs.cons_inv
  obtain rfl := rs.nil_inv
  cases r1; cases r2
  obtain ⟨hsm, ws, hm, dp⟩ := (x.sig _ _ hd).2
  rcases dp.get k with ⟨_, h2⟩ | ⟨v, p', h1, h2, r⟩
  · rw [hp] at h2; cases h2
  · rw [hp] at h2; cases h2
    refine call_meetsIn F.slot_dict_pop hm.typeIs F.entry_dict_pop (F.args_dict_pop_2 _ _) (meets_dict_pop_there (strKind _ _) d (strKind_is _ _ _ _) [] (.inl rfl) rfl) ⟨ws, v, hm, by rw [dp.length]; show _ ≤ 2 ^ 24; omega, h1, fun h' hm' hs' => ?_⟩
    exact Post.dict (t := s.toks + 1) ok x hd hro hs' hm' (fun tk => (dp.mono tk).without k) (fun tk => r.mono tk) h

end

theorem sSet_keys (l : List (Str × Int)) (k : Str) (i : Int) : (sSet l k i).map (·.1) = if k ∈ l.map (·.1) then l.map (·.1) else l.map (·.1) ++ [k] := by
  unfold sSet
  by_cases h : k ∈ l.map (·.1)
  · rw [if_pos h, if_pos]
    · rw [List.map_map]
      refine List.map_congr_left fun x _ => ?_
      by_cases hx : x.1 = k <;> simp [hx]
    · obtain ⟨x, hx, e⟩ := List.mem_map.mp h
      exact List.any_eq_true.mpr ⟨x, hx, by simpa using e⟩
  · rw [if_neg h, if_neg]
    · simp
    · rw [List.any_eq_true]; rintro ⟨x, hx, e⟩
      exact h (List.mem_map.mpr ⟨x, hx, by simpa using e⟩)
end SR

set_option maxRecDepth 100000
set_option linter.unusedVariables false
set_option linter.unusedSectionVars false
set_option linter.unusedSimpArgs false
namespace SR
open PySem

/-! list comprehensions: the engine's loop -/
section
variable {prog : Program} {w : World} {A : Around} {R : Result → Shared → Prop} {s : Shared}
theorem compLoop_any {elt target iter : Expr} {ifs : List Expr} {scope : Scope} {pos : Pos} {it acc : Value} {env : Env} (I : Nat → Shared → Prop)
    (turn : ∀ n s, I n s → wpAny (model prog w) A (pyNext it) (fun r s₁ => match r with
      | none => R (.ok .next) s₁
      | some v => wpAny (model prog w) A (letOwnedTupleGo target it v) (fun _ s₁' => wpAny (model prog w) A (assign target env v) (fun _ s₂ =>
          wpAny (model prog w) A (forIn ifs true fun c r => if r = true then do let ok ← isTrue c env (eval c env); pure (ForInStep.yield ok) else pure (ForInStep.yield r)) (fun ok s₃ =>
            if ok = true then wpAny (model prog w) A (eval elt env) (fun x s₄ =>
              wpAny (model prog w) A (call (.builtin "list.append") [acc, x]) (fun _ s₅ => ∃ m, m < n ∧ I m s₅) (fun _ _ => False) s₄) (fun _ _ => False) s₃
            else ∃ m, m < n ∧ I m s₃) (fun _ _ => False) s₂) (fun _ _ => False) s₁') (fun _ _ => False) s₁) (fun _ _ => False) s)
    (n : Nat) (h : I n s) : codeAny (model prog w) A (.compLoop (.ListComp elt [⟨target, iter, ifs, 0⟩] scope pos) 0 it acc env) R s := by
  refine codeAny_loop rfl I (fun n s hI => ?_) n h
  show wpAny _ A ((compTurn (.ListComp elt [⟨target, iter, ifs, 0⟩] scope pos) 0 it acc env).onRaise (fun x => do noteFrame x env; theTreesLotGoes x)) _ _ s
  refine wpAny_noted ?_
  rw [compTurn_list]
  refine wpAny_bind (wpAny_standAt (wpAny_bind (wpAny_mono (turn n s hI) (fun r s₁ h₁ => ?_) fun _ _ h' => h'.elim)))
  cases r with
  | none => exact wpAny_pure h₁
  | some v =>
    refine wpAny_bind (wpAny_mono h₁ (fun _ s₁' h₁' => ?_) fun _ _ h' => h'.elim)
    refine wpAny_bind (wpAny_mono h₁' (fun _ s₂ h₂ => wpAny_bind (wpAny_mono h₂ (fun ok s₃ h₃ => ?_) fun _ _ h' => h'.elim)) fun _ _ h' => h'.elim)
    cases ok with
    | false => exact wpAny_pure ⟨rfl, h₃⟩
    | true =>
      exact wpAny_bind (wpAny_bind (wpAny_mono h₃ (fun x s₄ h₄ => wpAny_bind (wpAny_mono h₄ (fun _ s₅ h₅ => wpAny_pure (wpAny_pure ⟨rfl, h₅⟩)) fun _ _ h' => h'.elim)) fun _ _ h' => h'.elim))
end

/-! the comprehension's own frame -/
def compSc (scope : Scope) : Scope := { scope with names := scope.names.filter fun x => x.2 != .free }
def compOk (scope sc : Scope) : Bool := decide (scope.kind = .function) && scope.names.all fun x => x.2 != .cell && (if x.2 == .free then sc.names.lookup x.1 == some .cell else scope.names.lookup x.1 == some x.2)
def locC (scope : Scope) (ρ : Loc) : Loc := fun x => if scope.names.lookup x == some .free then ρ x else none
def clOf (env : Env) : List (Str × NameKind) → List (Str × Addr) → List (Str × Addr)
  | [], acc => acc
  | (n, k) :: r, acc => clOf env r (if k == .free then (n, (env.cells.lookup n).getD 0) :: acc else acc)

theorem clOf_loop {env : Env} : ∀ (names : List (Str × NameKind)) (acc : List (Str × Addr)), (∀ x ∈ names, x.2 = .free → (env.cells.lookup x.1).isSome = true) →
    (forIn names acc fun x r => if x.2 == NameKind.free then do let c ← cellOf env x.1; pure (ForInStep.yield ((x.1, c) :: r)) else pure (ForInStep.yield r) : Sem (List (Str × Addr))) = pure (clOf env names acc)
  | [], acc, _ => rfl
  | (n, k) :: r, acc, h => by
    have ih := clOf_loop (env := env) r
    simp only [List.forIn_cons]
    by_cases hk : k = .free
    · subst hk
      obtain ⟨c, hc⟩ := Option.isSome_iff_exists.mp (h (n, .free) List.mem_cons_self rfl)
      have : cellOf env n = pure c := by unfold cellOf; rw [hc]
      simp only [beq_self_eq_true, if_true, this, pure_bind, clOf, hc, Option.getD_some]
      exact ih _ fun x hx => h x (List.mem_cons_of_mem _ hx)
    · have hk' : (k == NameKind.free) = false := by simpa using hk
      simp only [hk', Bool.false_eq_true, if_false, pure_bind, clOf]
      exact ih _ fun x hx => h x (List.mem_cons_of_mem _ hx)
theorem closureFor_eq {scope : Scope} {env : Env} (h : ∀ x ∈ scope.names, x.2 = .free → (env.cells.lookup x.1).isSome = true) : closureFor scope env = pure (clOf env scope.names []) := by
  have := clOf_loop scope.names [] h
  simp only [closureFor]
  refine Eq.trans ?_ this
  simp
theorem clOf_mem {env : Env} {n : Str} {c : Addr} : ∀ {names : List (Str × NameKind)} {acc : List (Str × Addr)}, (n, c) ∈ clOf env names acc → (n, c) ∈ acc ∨ ((n, .free) ∈ names ∧ c = (env.cells.lookup n).getD 0)
  | [], acc, h => .inl h
  | (m, k) :: r, acc, h => by
    rcases clOf_mem (names := r) h with h | ⟨h1, h2⟩
    · by_cases hk : k = .free
      · subst hk
        simp only [beq_self_eq_true, if_true] at h
        rcases List.mem_cons.mp h with h | h
        · cases h; exact .inr ⟨List.mem_cons_self, rfl⟩
        · exact .inl h
      · have hk' : (k == NameKind.free) = false := by simpa using hk
        simp only [hk', Bool.false_eq_true, if_false] at h; exact .inl h
    · exact .inr ⟨List.mem_cons_of_mem _ h1, h2⟩
theorem clOf_acc {env : Env} {y : Str × Addr} : ∀ {names : List (Str × NameKind)} {acc : List (Str × Addr)}, y ∈ acc → y ∈ clOf env names acc
  | [], acc, h => h
  | (m, k) :: r, acc, h => clOf_acc (names := r) (by split; exact List.mem_cons_of_mem _ h; exact h)
theorem clOf_there {env : Env} {n : Str} : ∀ {names : List (Str × NameKind)} {acc : List (Str × Addr)}, (n, .free) ∈ names → ∃ c, (n, c) ∈ clOf env names acc
  | (m, k) :: r, acc, h => by
    rcases List.mem_cons.mp h with h | h
    · cases h
      exact ⟨_, clOf_acc (names := r) List.mem_cons_self⟩
    · exact clOf_there (names := r) h
theorem lookup_of_mem {β : Type} {n : Str} {c : β} : ∀ {l : List (Str × β)}, (n, c) ∈ l → ∃ c', l.lookup n = some c'
  | (m, k) :: r, h => by
    by_cases e : n = m
    · subst e; exact ⟨k, by simp [List.lookup]⟩
    · rcases List.mem_cons.mp h with h | h
      · cases h; exact (e rfl).elim
      · obtain ⟨c', hc⟩ := lookup_of_mem (l := r) h
        exact ⟨c', by rw [List.lookup_cons, beq_false_of_ne e]; exact hc⟩
theorem lookup_relabel_other {env : Env} {k₀ : NameKind} (hk₀ : k₀ ≠ .free) : ∀ {names : List (Str × NameKind)} {x : Str}, names.lookup x = some k₀ →
    (names.map fun (n, k) => if (k == NameKind.free && env.scope.kind == .function && env.kindOf n == some .cell) then (n, NameKind.cell) else (n, k)).lookup x = some k₀
  | [], _, h => by simp at h
  | (n, k) :: r, x, h => by
    have ih := @lookup_relabel_other env k₀ hk₀ r x
    show List.lookup x ((if (k == NameKind.free && env.scope.kind == .function && env.kindOf n == some .cell) = true then (n, NameKind.cell) else (n, k)) :: _) = _
    cases hx : x == n with
    | true =>
      simp only [List.lookup_cons, hx] at h
      cases h
      have : (k₀ == NameKind.free) = false := by simpa using hk₀
      simp [List.lookup_cons, hx, this]
    | false =>
      simp only [List.lookup_cons, hx] at h
      by_cases hc : (k == NameKind.free && env.scope.kind == .function && env.kindOf n == some .cell) = true
      · rw [if_pos hc]; simp only [List.lookup_cons, hx]; exact ih h
      · rw [if_neg hc]; simp only [List.lookup_cons, hx]; exact ih h
theorem lookup_relabel_free {env : Env} (hf : env.scope.kind = .function) {x : Str} (hx : env.kindOf x = some .cell) : ∀ {names : List (Str × NameKind)}, names.lookup x = some .free →
    (names.map fun (n, k) => if (k == NameKind.free && env.scope.kind == .function && env.kindOf n == some .cell) then (n, NameKind.cell) else (n, k)).lookup x = some .cell
  | [], h => by simp at h
  | (n, k) :: r, h => by
    have ih := @lookup_relabel_free env hf x hx r
    show List.lookup x ((if (k == NameKind.free && env.scope.kind == .function && env.kindOf n == some .cell) = true then (n, NameKind.cell) else (n, k)) :: _) = _
    cases he : x == n with
    | true =>
      simp only [List.lookup_cons, he] at h
      cases h
      have : x = n := by simpa using he
      subst this
      simp [List.lookup_cons, hf, hx]
    | false =>
      simp only [List.lookup_cons, he] at h
      by_cases hc : (k == NameKind.free && env.scope.kind == .function && env.kindOf n == some .cell) = true
      · rw [if_pos hc]; simp only [List.lookup_cons, he]; exact ih h
      · rw [if_neg hc]; simp only [List.lookup_cons, he]; exact ih h

/-! the abstract turns -/
def Tes (C : Cx) : List Expr → Loc → Sig → (Bool → Sig → Prop) → Prop
  | [], _, σ, Q => Q true σ
  | c :: cs, ρ, σ, Q => Te C c ρ σ (fun b σ₁ => if b = true then Tes C cs ρ σ₁ Q else Q false σ₁) noX
def CompL (C : Cx) (tgt : Expr) (ifs : List Expr) (elt : Expr) (ρ : Loc) (Q : List PV → Sig → Prop) : List PV → Sig → List PV → Prop
  | [], σ, acc => Q acc σ
  | p :: ps, σ, acc => ∃ ρ₁, Bind1 C tgt p ρ ρ₁ ∧ LSub ρ ρ₁ ∧ Tes C ifs ρ₁ σ (fun b σ₁ => if b = true then Ev C elt ρ₁ σ₁ (fun q σ₂ => CompL C tgt ifs elt ρ Q ps σ₂ (acc ++ [q])) noX else CompL C tgt ifs elt ρ Q ps σ₁ acc)

theorem noExc {C : Cx} {σ : Sig} {s s' : Shared} {e : Value} (h : Exc C σ s noX e s') : False := by
  obtain ⟨_, _, _, _, _, _, _, _, q⟩ := h; exact q

section
variable {C : Cx} {ρ : Loc} {σ : Sig}
theorem Tes.run_false {P : Bool → Shared → Prop} {E : Value → Shared → Prop} {M : Model} {s : Shared} {env : Env} : ∀ (cs : List Expr), P false s →
    wpAny M C.A (forIn cs false fun c r => if r = true then do let ok ← isTrue c env (eval c env); pure (ForInStep.yield ok) else pure (ForInStep.yield r)) P E s
  | [], h => wpAny_pure h
  | c :: cs, h => by
    simp only [List.forIn_cons, Bool.false_eq_true, if_false, pure_bind]
    exact Tes.run_false cs h
theorem Tes.run {Q : Bool → Sig → Prop} : ∀ (cs : List Expr) (σ₀ σ : Sig) (s₀ s : Shared), Step C σ₀ s₀ σ s → St C ρ σ s → Tes C cs ρ σ Q →
    wpAny (model C.S.prog C.S.w) C.A (forIn cs true fun c r => if r = true then do let ok ← isTrue c C.env (eval c C.env); pure (ForInStep.yield ok) else pure (ForInStep.yield r)) (PostB C ρ σ₀ s₀ Q) (fun _ _ => False) s
  | [], σ₀, σ, s₀, s, k, x, h => wpAny_pure ⟨σ, x, k, h⟩
  | c :: cs, σ₀, σ, s₀, s, k, x, h => by
    simp only [List.forIn_cons, if_true, bind_assoc, pure_bind]
    refine wpAny_bind (wpAny_mono (Te.run h s x) (fun b s₁ ⟨σ₁, x₁, k₁, h₁⟩ => ?_) fun _ _ e => noExc e)
    cases b with
    | true => exact Tes.run cs σ₀ σ₁ s₀ s₁ (k.trans k₁) x₁ h₁
    | false => exact Tes.run_false cs ⟨σ₁, x₁, k.trans k₁, h₁⟩
end

theorem St.adopt {C : Cx} {ρ : Loc} {σ : Sig} {s : Shared} {D : Addr} {o : AO} (x : St C ρ σ s) (hb : C.S.base.get? D = none) (hr : OR C.S s.heap D o) (hf : D ∉ fsOf C.frs) (ho : D ∉ C.own) : St C ρ (σ.set D o) s := by
  refine ⟨⟨x.base, x.os, x.gens, fun b ob e => ?_, x.frames, fun b ob e => ?_⟩, x.fr, fun b ob e => ?_⟩
  all_goals simp only [Sig.set] at e; split at e
  · next h => subst h; cases e; exact ⟨hb, hr⟩
  · exact x.sig b ob e
  · next h => subst h; exact hf
  · exact x.offF b ob e
  · next h => subst h; exact ho
  · exact x.off b ob e

section
variable {S : Sx} {sc : Scope} {ro : List Addr} {room : Nat} {g : Gh} {ρ : Loc} {σ : Sig}
/-- the frame of a comprehension -/
def compG (g : Gh) (scope : Scope) (Cl : Addr) : Gh := ⟨g.A, compEnvC scope (clOf g.env scope.names []) Cl g.env, [Cl], g.frs⟩
theorem compOk_free {scope sc : Scope} (h : compOk scope sc = true) {x : Str × NameKind} (hx : x ∈ scope.names) (hf : x.2 = .free) : sc.names.lookup x.1 = some .cell := by
  obtain ⟨_, h2⟩ := Bool.and_eq_true_iff.mp h
  have := List.all_eq_true.mp h2 x hx
  simp only [hf] at this
  simpa using this
theorem compOk_cell {scope sc : Scope} (h : compOk scope sc = true) : ∀ y ∈ scope.names, y.2 ≠ .cell := fun y hy e => by
  obtain ⟨_, h2⟩ := Bool.and_eq_true_iff.mp h
  have := List.all_eq_true.mp h2 y hy
  simp [e] at this
theorem compOk_other {scope sc : Scope} (h : compOk scope sc = true) {x : Str × NameKind} (hx : x ∈ scope.names) (hf : x.2 ≠ .free) : scope.names.lookup x.1 = some x.2 := by
  obtain ⟨_, h2⟩ := Bool.and_eq_true_iff.mp h
  have := List.all_eq_true.mp h2 x hx
  have hf' : (x.2 == NameKind.free) = false := by simpa using hf
  simp only [hf', Bool.false_eq_true, if_false, Bool.and_eq_true] at this
  simpa using this.2
theorem compOk_kind {scope sc : Scope} (h : compOk scope sc = true) : scope.kind = .function := by
  obtain ⟨h1, _⟩ := Bool.and_eq_true_iff.mp h
  simpa using h1
theorem compCl {scope : Scope} (ok : (mkC S sc ro room g).Ok) (hc : ∀ x, kdOf sc x = some .cell → (g.env.cells.lookup x).isSome) (hok : compOk scope sc = true) {x : Str} {c : Addr} (h : (clOf g.env scope.names []).lookup x = some c) : g.env.cells.lookup x = some c := by
  rcases clOf_mem (mem_of_lookup h) with h | ⟨h1, h2⟩
  · cases h
  · obtain ⟨c', hc'⟩ := Option.isSome_iff_exists.mp (hc x (compOk_free hok h1 rfl))
    rw [hc'] at h2 ⊢; simpa using h2.symm
theorem compG_ok {scope : Scope} {Cl : Addr} (ok : (mkC S sc ro room g).Ok) (hc : ∀ x, kdOf sc x = some .cell → (g.env.cells.lookup x).isSome) (hok : compOk scope sc = true) (hb : S.base.get? Cl = none) (ro' : List Addr) :
    (mkC S (compSc scope) ro' room (compG g scope Cl)).Ok := by
  refine ⟨ok.S, ok.hh, ok.depth, ok.units, (compOk_kind hok : scope.kind = .function), ok.globals, ok.builtins, fun x k e => ?_, List.mem_cons_self, fun x c _ e => ?_, fun x y c h1 h2 => ?_, fun a ha => ?_, ok.frames⟩
  · have hm := List.mem_filter.mp (mem_of_lookup e)
    have hk : k ≠ .free := by simpa using hm.2
    exact lookup_relabel_other hk (compOk_other hok hm.1 hk)
  · have hm := List.mem_filter.mp (mem_of_lookup e)
    exact (compOk_cell hok _ hm.1 rfl).elim
  · exact ok.apart x y c (compCl ok hc hok h1) (compCl ok hc hok h2)
  · obtain rfl : a = Cl := by simpa [mkC, compG] using ha
    exact hb

theorem compG_st {scope : Scope} {Cl : Addr} {s s₄ : Shared} {m : Str → Option Value} (ok : (mkC S sc ro room g).Ok) (hc : ∀ x, kdOf sc x = some .cell → (g.env.cells.lookup x).isSome) (hok : compOk scope sc = true) (ro' : List Addr)
    (x : St (mkC S sc ro room g) ρ σ s) (hf : s.heap.get? Cl = none) (g₄ : GSt S g.frs σ s₄) (hk : ∀ b o, s.heap.get? b = some o → s₄.heap.get? b = some o) (hn : s₄.heap.Ns Cl m) :
    St (mkC S (compSc scope) ro' room (compG g scope Cl)) (locC scope ρ) σ s₄ := by
  refine ⟨g₄, ⟨⟨m, hn, fun y p e => ?_⟩, fun y c e => ?_, fun a ha => ?_⟩, fun a o e ha => ?_⟩
  · simp only [locC] at e
    split at e
    · next hfr =>
      have hfr' : scope.names.lookup y = some .free := by simpa using hfr
      have hmem : (y, NameKind.free) ∈ scope.names := mem_of_lookup hfr'
      have hcell : kdOf sc y = some .cell := compOk_free hok hmem rfl
      have hkind : g.env.kindOf y = some .cell := ok.kinds y _ hcell
      obtain ⟨mo, _, hx⟩ := x.fr.ns
      rcases hx y p e with ⟨h1, _⟩ | ⟨_, c, v, h2, _, h4, h5⟩
      · have h1' : g.env.kindOf y = some .local := h1
        rw [hkind] at h1'; cases h1'
      · obtain ⟨c', hc'⟩ := clOf_there (env := g.env) (acc := []) hmem
        obtain ⟨c'', hl⟩ := lookup_of_mem hc'
        have := compCl ok hc hok hl
        have h2' : g.env.cells.lookup y = some c := h2
        rw [h2'] at this; cases this
        refine .inr ⟨.inl (lookup_relabel_free ok.kind hkind hfr'), c, v, hl, fun q => ?_, h4.keeps hk, h5.mono (.of_ext hk)⟩
        obtain ⟨oc, ec, _⟩ := h4
        have q' : c = Cl := q
        rw [q', hf] at ec; cases ec
    · cases e
  · have := compCl ok hc hok e
    obtain ⟨v, hv⟩ := x.fr.cells y c this
    exact ⟨v, hv.keeps hk⟩
  · obtain rfl : a = Cl := by simpa [mkC, compG] using ha
    obtain ⟨o, es, ep, ho, hd, _⟩ := hn
    exact ⟨o, ho, .inl ⟨es, ep, hd⟩⟩
  · obtain rfl : a = Cl := by simpa [mkC, compG] using ha
    rw [x.fresh_sig hf] at e; cases e
end

section
variable {S : Sx} {sc : Scope} {ro : List Addr} {room : Nat} {g : Gh} {ρ : Loc} {σ : Sig}
theorem TupKept.but {h h' : Heap} {I : Addr} (hnt : ∀ vs, ¬ h.IsTuple I vs) (hk : ∀ b o, b ≠ I → h.get? b = some o → h'.get? b = some o) : TupKept h h' := fun b vs y => by
  by_cases e : b = I
  · subst e; exact (hnt vs y).elim
  · obtain ⟨ob, q, r⟩ := y; exact ⟨ob, hk b ob e q, r⟩
theorem Stp.but {own fs : List Addr} {σ₀ : Sig} {s₀ s : Shared} {h' : Heap} {t : Nat} {I : Addr} (h0 : s₀.heap.get? I = none) (k₀ : Stp own ro fs σ₀ s₀ σ s) (hk : ∀ b o, b ≠ I → s.heap.get? b = some o → h'.get? b = some o) : Stp own ro fs σ₀ s₀ σ { s with heap := h', toks := t } :=
  ⟨fun a o e nd => by
    obtain ⟨o', e', q⟩ := k₀.kept a o e nd
    exact ⟨o', hk a o' (fun z => by rw [z, h0] at e; cases e) e', q⟩, fun a o e => by
    obtain ⟨o', e'⟩ := k₀.live a o e
    exact ⟨o', hk a o' (fun z => by rw [z, h0] at e; cases e) e'⟩, k₀.dom⟩

/-- what the comprehension leaves -/
def CompEnd (C : Cx) (ρ : Loc) (σ : Sig) (s : Shared) (Q : List PV → Sig → Prop) (acc : Value) (Cl : Addr) (r : Result) (s' : Shared) : Prop :=
  r = .ok .next ∧ ∃ D ps σ₂ m, acc = .ref D ∧ s'.heap.Ns Cl m ∧ s.heap.get? Cl = none ∧ St C ρ (σ₂.set D (.list ps)) s' ∧ Step C σ s (σ₂.set D (.list ps)) s' ∧ (σ₂.set D (.list ps)) Cl = none ∧ σ₂ D = none ∧ Q ps σ₂

theorem compLoop_sound {tgt iter elt : Expr} {ifs : List Expr} {scope : Scope} {pos : Pos} {Q : List PV → Sig → Prop} {I D Cl : Addr} {fp fz : List Addr} {J : List PV → Heap → Prop} {s₁ s : Shared} {pvs : List PV} (ok : (mkC S sc ro room g).Ok)
    (ok' : (mkC S (compSc scope) (fz ++ ro) room (compG g scope Cl)).Ok) (W : AIter S.prog S.w g.A I tgt fp J) (x₁ : St (mkC S sc ro room g) ρ σ s₁) (hI : s₁.heap.get? I = none) (hD : s₁.heap.get? D = none) (hCl : s₁.heap.get? Cl = none) (hDC : D ≠ Cl) (hDf : D ∉ fp)
    (hlen : pvs.length ≤ 100000) (x : St (mkC S (compSc scope) (fz ++ ro) room (compG g scope Cl)) (locC scope ρ) σ s) (k : Stp [Cl] (fz ++ ro) (fsOf g.frs) σ s₁ σ s) (hJ : J pvs s.heap) (gr : Ground (mkC S (compSc scope) (fz ++ ro) room (compG g scope Cl)) σ I fp s.heap)
    (hpl : s.heap.PlainList D #[]) (hL : CompL (mkC S (compSc scope) (fz ++ ro) room (compG g scope Cl)) tgt ifs elt (locC scope ρ) Q pvs σ []) :
    codeAny (model S.prog S.w) g.A (.compLoop (.ListComp elt [⟨tgt, iter, ifs, 0⟩] scope pos) 0 (.ref I) (.ref D) (compG g scope Cl).env) (CompEnd (mkC S sc ro room g) ρ σ s₁ Q (.ref D) Cl) s := by
  generalize hC' : mkC S (compSc scope) (fz ++ ro) room (compG g scope Cl) = C' at ok' x gr hL
  have eS : C'.S = S := by rw [← hC']; rfl
  have eA : C'.A = g.A := by rw [← hC']; rfl
  have eE : C'.env = (compG g scope Cl).env := by rw [← hC']; rfl
  have eO : C'.own = [Cl] := by rw [← hC']; rfl
  have eR : C'.ro = fz ++ ro := by rw [← hC']; rfl
  have eF : C'.frs = g.frs := by rw [← hC']; rfl
  have hID : D ≠ I := fun e => hDf (e ▸ W.mine)
  have hDb : C'.S.base.get? D = none := by rw [eS]; exact x₁.fresh_base hD
  have hDfs : D ∉ fsOf g.frs := x₁.fresh_fs hD
  have hDcell : ∀ y c, C'.env.cells.lookup y = some c → ∀ s : Shared, FrRep C' (locC scope ρ) s.heap → s.heap.PlainList D #[] → c ≠ D := fun y c e s fr pl q => by
    obtain ⟨v, o, e', hd⟩ := fr.cells y c e
    obtain ⟨n, e''⟩ := pl
    rw [q, e''] at e'; cases e'; cases hd
  have hDcell' : ∀ y c, C'.env.cells.lookup y = some c → c ≠ D := fun y c e => hDcell y c e s x.fr hpl
  refine compLoop_any (fun n s => ∃ pvs σ' acc, ∃ ws : List Value, n = pvs.length ∧ St C' (locC scope ρ) σ' s ∧ Stp C'.own C'.ro (fsOf C'.frs) σ s₁ σ' s ∧ J pvs s.heap ∧ Ground C' σ' I fp s.heap ∧ s.heap.PlainList D ws.toArray ∧ VRs s.heap ws acc ∧ σ' D = none ∧ acc.length + pvs.length ≤ 100000 ∧ CompL C' tgt ifs elt (locC scope ρ) Q pvs σ' acc)
    ?_ pvs.length ⟨pvs, σ, [], [], rfl, x, by rw [eO, eR, eF]; exact k, hJ, gr, hpl, .nil, x₁.fresh_sig hD, by simpa using hlen, hL⟩
  rintro n s ⟨pvs, σ', acc, ws, rfl, x, k, hJ, gr, hpl, hws, hσD, hlen, hL⟩
  have offD : ∀ σ', σ' D = none → Off C' σ' D := fun σ' h => ⟨by rw [eO]; simpa using hDC, by rw [eF]; exact hDfs, .inr h⟩
  have aside : ∀ (h' : Heap) (tk : Nat), (∀ b o, b ≠ I → s.heap.get? b = some o → h'.get? b = some o) → St C' (locC scope ρ) σ' { s with heap := h', toks := tk } ∧ Stp C'.own C'.ro (fsOf C'.frs) σ s₁ σ' { s with heap := h', toks := tk } ∧ h'.PlainList D ws.toArray ∧ VRs h' ws acc := fun h' tk hk =>
    ⟨x.aside ok' (gr.off I W.mine) gr.new gr.sig (W.notup _ _ hJ) gr.cell hk, Stp.but hI k hk, by obtain ⟨n, e⟩ := hpl; exact ⟨n, hk D _ hID e⟩, hws.mono (TupKept.but (W.notup _ _ hJ) hk)⟩
  cases pvs with
  | nil =>
    refine wpAny_mono (W.stop s (fun s₁' => St C' (locC scope ρ) σ' s₁' ∧ Stp C'.own C'.ro (fsOf C'.frs) σ s₁ σ' s₁' ∧ s₁'.heap.PlainList D ws.toArray ∧ VRs s₁'.heap ws acc) _ hJ fun h' tk hk => aside h' tk hk) (fun r s₂ hr => ?_) fun _ _ e => e
    cases r with
    | some _ => exact hr.elim
    | none =>
      obtain ⟨x₂, k₂, pl₂, ws₂⟩ := hr
      rw [eO, eR, eF] at k₂
      have k' : Stp [] (mkC S sc ro room g).ro (fsOf (mkC S sc ro room g).frs) σ s₁ σ' s₂ := ⟨fun a o e nd => k₂.kept a o e (by
        rintro (h | ⟨h1, h2⟩)
        · obtain rfl : a = Cl := by simpa using h
          rw [hCl] at e; cases e
        · exact nd (.inr ⟨h1, fun q => h2 (List.mem_append_right _ q)⟩)), k₂.live, k₂.dom⟩
      have g₂ : GSt (mkC S sc ro room g).S (mkC S sc ro room g).frs σ' s₂ := by have := x₂.toGSt; rw [eS, eF] at this; exact this
      obtain ⟨x₃, k₃⟩ := x₁.call ok g₂ k'
      obtain ⟨m, hn, _⟩ := x₂.fr.ns
      have hn' : s₂.heap.Ns Cl m := by rw [eE] at hn; exact hn
      have hσC : σ' Cl = none := by
        cases e : σ' Cl with
        | none => rfl
        | some o => exact (x₂.off Cl o e (by rw [eO]; simp)).elim
      refine ⟨rfl, D, acc, σ', m, rfl, hn', hCl, x₃.adopt (x₁.fresh_base hD) ⟨ws, pl₂, ws₂⟩ hDfs (x₁.fresh_own hD), ⟨k₃.kept, k₃.live, fun a h => ?_⟩, ?_, hσD, hL⟩
      · simp only [Sig.set] at h
        split at h
        · next q => subst q; exact .inr hD
        · exact k₃.dom a h
      · rw [Sig.set_ne _ _ (Ne.symm hDC)]; exact hσC
  | cons p ps =>
    obtain ⟨ρ₁, hb, hsub, hT⟩ := hL
    refine wpAny_mono (W.next p ps s (fun v s₁' => VR s₁'.heap v p ∧ J ps s₁'.heap ∧ St C' (locC scope ρ) σ' s₁' ∧ Stp C'.own C'.ro (fsOf C'.frs) σ s₁ σ' s₁' ∧ s₁'.heap.PlainList D ws.toArray ∧ VRs s₁'.heap ws acc) _ hJ fun v h' tk hv hJ' hk => ⟨hv, hJ', aside h' tk hk⟩) (fun r s₁' hr => ?_) fun _ _ e => e
    cases r with
    | none => exact hr.elim
    | some v =>
      refine wpAny_mono hr (fun _ s₂ ⟨hv, hJ₂, x₂, k₂, pl₂, ws₂⟩ => ?_) fun _ _ e => e
      have as : wpAny (model C'.S.prog C'.S.w) C'.A (assign tgt C'.env v) (fun _ s₃ => St C' ρ₁ σ' s₃ ∧ Step C' σ' s₂ σ' s₃) (fun _ _ => False) s₂ := wp_assign ok' x₂ hv hb fun s₃ x₃ k₃ => ⟨x₃, k₃⟩
      rw [eS, eA, eE] at as
      refine wpAny_mono as (fun _ s₃ ⟨x₃, k₃⟩ => ?_) fun _ _ e => e
      have ts := Tes.run ifs σ' σ' s₂ s₃ k₃ x₃ hT
      rw [eS, eA, eE] at ts
      refine wpAny_mono ts (fun b s₄ ⟨σ₄, x₄, k₄, h₄⟩ => ?_) fun _ _ e => e
      have off₂ := offD σ' hσD
      have liveD : ∃ o, s₂.heap.get? D = some o := by obtain ⟨n, e⟩ := pl₂; exact ⟨_, e⟩
      have th := W.there _ _ hJ₂
      have g₂ : Ground C' σ' I fp s₂.heap := ⟨gr.off, gr.new, gr.sig, gr.cell⟩
      have plk : ∀ {σ₅ : Sig} {s₅ : Shared}, Step C' σ' s₂ σ₅ s₅ → s₅.heap.PlainList D ws.toArray ∧ VRs s₅.heap ws acc ∧ σ₅ D = none ∧ J ps s₅.heap ∧ Ground C' σ₅ I fp s₅.heap := fun {σ₅ s₅} k₅ => by
        refine ⟨?_, ws₂.mono (x₂.tup k₅.kept), ?_, W.frame _ _ _ hJ₂ (x₂.tup k₅.kept) fun b hb o e => (g₂.off b hb).kept k₅ e, g₂.step k₅ th W.mine⟩
        · obtain ⟨n, e⟩ := pl₂; exact ⟨n, off₂.kept k₅ e⟩
        · cases e : σ₅ D with
          | none => rfl
          | some o =>
            rcases k₅.dom D (by rw [e]; rfl) with q | q
            · rw [hσD] at q; cases q
            · obtain ⟨o, h⟩ := liveD; rw [h] at q; cases q
      cases b with
      | false =>
        obtain ⟨a1, a2, a3, a4, a5⟩ := plk k₄
        exact ⟨ps.length, Nat.lt_succ_self _, ps, σ₄, acc, ws, rfl, x₄.drop hsub (fun _ _ h => h), k₂.trans k₄, a4, a5, a1, a2, a3, by simp only [List.length_cons] at hlen; omega, h₄⟩
      | true =>
        have ev := Ev.run h₄ s₄ x₄
        rw [eS, eA, eE] at ev
        simp only [if_true]
        refine wpAny_mono ev (fun y s₅ ⟨q, σ₅, hy, x₅, k₅, h₅⟩ => ?_) fun _ _ e => noExc e
        obtain ⟨a1, a2, a3, a4, a5⟩ := plk (k₄.trans k₅)
        refine wpAny_list_append_plain a1 (fun h' pl' hs' => ?_) (by show ws.toArray.size ≤ 2 ^ 24; rw [List.size_toArray, a2.length]; simp only [List.length_cons] at hlen; omega)
        have hnt : ∀ vs, ¬ s₅.heap.IsTuple D vs := by
          rintro vs ⟨o, e, hc, _⟩
          obtain ⟨n, e'⟩ := a1
          rw [e'] at e; cases e; simp at hc
        have ext : ∀ b o, b ≠ D → s₅.heap.get? b = some o → h'.get? b = some o := fun b o hb e => hs'.extBut b o hb e
        have tk := TupKept.but hnt ext
        refine ⟨ps.length, Nat.lt_succ_self _, ps, σ₅, acc ++ [q], ws ++ [y], rfl, ?_, ?_, W.frame _ _ _ a4 tk fun b hb o e => ext b o (fun q => hDf (q ▸ hb)) e, ⟨a5.off, a5.new, a5.sig, a5.cell⟩, ?_, (a2.mono tk).append (.cons (hy.mono tk) .nil), a3, by simp only [List.length_cons, List.length_append, List.length_nil] at hlen ⊢; omega, h₅⟩
        · have z : St C' (locC scope ρ) σ₅ { s₅ with heap := h', toks := s₅.toks } := (x₅.drop hsub (fun _ _ h => h)).aside ok' (offD σ₅ a3) hDb a3 hnt hDcell' ext
          exact z
        · have z : Stp C'.own C'.ro (fsOf C'.frs) σ s₁ σ₅ { s₅ with heap := h', toks := s₅.toks } := Stp.but hD (k₂.trans (k₄.trans k₅)) ext
          exact z
        · simpa using pl'
end

section
variable {S : Sx} {sc : Scope} {ro : List Addr} {room : Nat} {g : Gh} {ρ : Loc} {σ : Sig} {X : String → Sig → Prop}

theorem comp_block {tgt iter elt : Expr} {ifs : List Expr} {scope : Scope} {pos : Pos} {Q : List PV → Sig → Prop} {p : PV} {v : Value} {fz : List Addr} {pvs : List PV} {s₁ : Shared} {E : Value → Shared → Prop} {RR : Value → Addr → Result → Shared → Prop} (ok : (mkC S sc ro room g).Ok)
    (hc : ∀ x, kdOf sc x = some .cell → (g.env.cells.lookup x).isSome) (hok : compOk scope sc = true) (x₁ : St (mkC S sc ro room g) ρ σ s₁) (hv : VR s₁.heap v p) (hit : Iterates (mkC S sc ro room g) tgt p σ fz pvs) (hfz : ∀ b ∈ fz, ∃ o, σ b = some o) (hlen : pvs.length ≤ 100000)
    (hL : ∀ g', (mkC S (compSc scope) (fz ++ ro) room g').Ok → CompL (mkC S (compSc scope) (fz ++ ro) room g') tgt ifs elt (locC scope ρ) Q pvs σ [])
    (hR : ∀ acc Cl r s', CompEnd (mkC S sc ro room g) ρ σ s₁ Q acc Cl r s' → RR acc Cl r s') :
    wpAny (model S.prog S.w) g.A (pyIter v) (fun it s₂ => wpAny (model S.prog S.w) g.A (newList []) (fun acc s₃ => wpAny (model S.prog S.w) g.A (newFunctionEnv scope g.env.globals (clOf g.env scope.names []) [] g.env.qual none .none (some g.env)) (fun cenv s₄ =>
      codeAny (model S.prog S.w) g.A (.compStart (.ListComp elt [⟨tgt, iter, ifs, 0⟩] scope pos) 0 it acc { cenv with scope := relabel scope g.env }) (RR acc cenv.locals) s₄) E s₃) E s₂) E s₁ := by
  refine hit ρ s₁ v _ _ x₁ hv fun I fp J h' tk hk hI W hJ hfp => ?_
  have x₂ := x₁.ext (t := tk) hk
  refine wpAny_newObj_type (wpAny_newFunctionEnv (compOk_cell hok) (by intro y hy; simp at hy) (fun h₁ hns₁ hsb₁ => ?_) (compOk_kind hok))
  dsimp only at hns₁ hsb₁ ⊢
  generalize hH2 : h'.push { cls := .type "list", dict := none, data := .seq ([] : List Value).toArray } = H2 at hns₁ hsb₁ ⊢
  have hCs : H2.objs.size = h'.objs.size + 1 := by rw [← hH2, Heap.size_push]
  have hDC : h'.objs.size ≠ H2.objs.size := by rw [hCs]; exact Nat.ne_of_lt (Nat.lt_succ_self _)
  have below : ∀ b, b < h'.objs.size → b ≠ H2.objs.size ∧ b ≠ h'.objs.size := fun b hb => ⟨by rw [hCs]; exact Nat.ne_of_lt (Nat.lt_succ_of_lt hb), Nat.ne_of_lt hb⟩
  have fresh : ∀ a, h'.objs.size ≤ a → h'.get? a = none := fun a ha => by
    cases e : h'.get? a with
    | none => rfl
    | some o' => exact absurd (Heap.lt_size e) (Nat.not_lt.mpr ha)
  have fresh₁ : ∀ a, h'.objs.size ≤ a → s₁.heap.get? a = none := fun a ha => by
    cases e : s₁.heap.get? a with
    | none => rfl
    | some o' => have := hk a o' e; rw [fresh a ha] at this; cases this
  have old : ∀ b o, h'.get? b = some o → h₁.get? b = some o := fun b o e => hsb₁.extBut b o (below b (Heap.lt_size e)).1 (Heap.get?_push_of_some _ (hH2 ▸ Heap.get?_push_of_some _ e))
  have hacc : h₁.PlainList h'.objs.size #[] := ⟨_, hsb₁.extBut _ _ hDC (Heap.get?_push_of_some _ (hH2 ▸ Heap.get?_push_size _ rfl))⟩
  have old₁ : ∀ b o, s₁.heap.get? b = some o → h₁.get? b = some o := fun b o e => old b o (hk b o e)
  have hCl : s₁.heap.get? H2.objs.size = none := fresh₁ _ (by rw [hCs]; exact Nat.le_succ _)
  have ok' := compG_ok (scope := scope) (Cl := H2.objs.size) ok hc hok (x₁.fresh_base hCl) (fz ++ ro)
  have hfpD : ∀ b ∈ fp, b ≠ h'.objs.size := fun b hb e => by
    obtain ⟨o, q⟩ := W.there _ _ hJ b hb
    rw [e, fresh _ (Nat.le_refl _)] at q; cases q
  have hJ₁ : J pvs h₁ := W.frame _ _ _ hJ (.of_ext old) fun b _ o e => old b o e
  have st : ∀ t : Nat, St (mkC S (compSc scope) (fz ++ ro) room (compG g scope H2.objs.size)) (locC scope ρ) σ { s₁ with heap := h₁, toks := t } := fun t => compG_st (s₄ := { s₁ with heap := h₁, toks := t }) ok hc hok _ x₁ hCl (x₁.toGSt.ext old₁) old₁ hns₁
  have gr : Ground (mkC S (compSc scope) (fz ++ ro) room (compG g scope H2.objs.size)) σ I fp h₁ := by
    have gg := ground_of (h' := h') (t := tk) x₁ hI hfz hfp
    refine ⟨fun b hb => ⟨?_, (gg.off b hb).2.1, (gg.off b hb).2.2⟩, gg.new, gg.sig, fun y c e q => ?_⟩
    · intro hm
      obtain ⟨o, q⟩ := W.there _ _ hJ b hb
      obtain rfl : b = H2.objs.size := by simpa [mkC, compG] using hm
      exact absurd (Heap.lt_size q) (by rw [hCs]; exact Nat.not_lt.mpr (Nat.le_succ _))
    · exact gg.cell y c (compCl ok hc hok e) q
  have loop : ∀ t : Nat, codeAny (model S.prog S.w) g.A (.compLoop (.ListComp elt [⟨tgt, iter, ifs, 0⟩] scope pos) 0 (.ref I) (.ref h'.objs.size) (compG g scope H2.objs.size).env) (RR (.ref h'.objs.size) H2.objs.size) { s₁ with heap := h₁, toks := t } := fun t =>
    codeAny_mono (compLoop_sound (iter := iter) (pos := pos) ok ok' W x₁ hI (fresh₁ _ (Nat.le_refl _)) hCl hDC (fun hm => hfpD _ hm rfl) hlen (st t) (Stp.ext old₁) hJ₁ gr hacc (hL _ ok')) fun r s' h => hR _ _ r s' h
  exact codeAny_compStart_list (loop _) (W.self pvs _ _ _ hJ₁ (loop _))

theorem St.let_go {C : Cx} {ρ : Loc} {σ σ' : Sig} {s s' : Shared} {Cl : Addr} {m : Str → Option Value} {h' : Heap} {t : Nat} (x : St C ρ σ' s') (ok : C.Ok) (k : Step C σ s σ' s') (h0 : s.heap.get? Cl = none) (x₀ : St C ρ σ s) (hσ : σ' Cl = none) (hn : s'.heap.Ns Cl m) (hs : Heap.SameBut Cl s'.heap h') :
    St C ρ σ' { s' with heap := h', toks := t } ∧ Step C σ s σ' { s' with heap := h', toks := t } := by
  have ext : ∀ b o, b ≠ Cl → s'.heap.get? b = some o → h'.get? b = some o := fun b o hb e => hs.extBut b o hb e
  have own : Cl ∉ C.own := x₀.fresh_own h0
  obtain ⟨o, es, ep, ho, hd, _⟩ := hn
  refine ⟨x.aside ok ⟨own, x₀.fresh_fs h0, .inr hσ⟩ (x₀.fresh_base h0) hσ ?_ (fun y c e q => ?_) ext, Stp.but h0 k ext⟩
  · rintro vs ⟨o', e, _, n, r⟩
    rw [ho] at e; cases e; rw [hd] at r; cases r
  · obtain ⟨v, o', e', r⟩ := x.fr.cells y c e
    rw [q, ho] at e'; cases e'; rw [hd] at r; cases r

/-- [elt for tgt in iter if ..] -/
theorem Ev.listComp {tgt iter elt : Expr} {ifs : List Expr} {scope : Scope} {pos : Pos} {Q : PV → Sig → Prop} (ok : (mkC S sc ro room g).Ok) (hc : ∀ x, kdOf sc x = some .cell → (g.env.cells.lookup x).isSome) (hok : compOk scope sc = true)
    (h : Ev (mkC S sc ro room g) iter ρ σ (fun p σ₁ => ∃ fz pvs, Iterates (mkC S sc ro room g) tgt p σ₁ fz pvs ∧ (∀ b ∈ fz, ∃ o, σ₁ b = some o) ∧ pvs.length ≤ 100000 ∧
      ∀ g', (mkC S (compSc scope) (fz ++ ro) room g').Ok → CompL (mkC S (compSc scope) (fz ++ ro) room g') tgt ifs elt (locC scope ρ) (fun ps σ₂ => ∀ a, σ₂ a = none → Q (.ref a) (σ₂.set a (.list ps))) pvs σ₁ []) X)
    (hs : ∀ x, foldedSetIterable iter g.env x = pure x := by intro _; rfl) : Ev (mkC S sc ro room g) (.ListComp elt [⟨tgt, iter, ifs, 0⟩] scope pos) ρ σ Q X := by
  refine ⟨fun s x => ?_⟩
  show wpAny (model S.prog S.w) g.A (eval (.ListComp elt [⟨tgt, iter, ifs, 0⟩] scope pos) g.env) _ _ s
  rw [eval_ListComp]
  have hfree : ∀ x ∈ scope.names, x.2 = .free → (g.env.cells.lookup x.1).isSome = true := fun y hy hf => hc _ (compOk_free hok hy hf)
  have hnames : ∀ y ∈ scope.names, y.2 = .local → scope.names.lookup y.1 = some .local := fun y hy hl => by
    have := compOk_other hok hy (by rw [hl]; decide)
    rw [hl] at this; exact this
  refine wpAny_comprehension_free (use := none) rfl hs (closureFor_eq hfree) (compOk_kind hok) hnames (wpAny_mono (h.run s x) (fun v s₁ hq₁ => ?_) fun _ _ e => e)
  obtain ⟨p, σ₁, hv, x₁, k₁, fz, pvs, hit, hfz, hlen, hL⟩ := hq₁
  refine comp_block (RR := fun acc Cl => compPost (model S.prog S.w) g.A _ none _ acc Cl) ok hc hok x₁ hv hit hfz hlen hL ?_
  rintro acc Cl r s' ⟨rfl, D, ps, σ₂, m, rfl, hn, h0, x', k', hσ, hσD, hq⟩
  refine ⟨m, hn, fun h' hs' => ?_⟩
  obtain ⟨x'', k''⟩ := x'.let_go (t := s'.toks) ok k' h0 x₁ hσ hn hs'
  exact ⟨.ref D, _, .ref D, x'', k₁.trans k'', hq D hσD⟩

/-- y = [elt for ..] on one line: the name is stored ahead of the letting go -/
theorem Ex.assignComp {y : Str} {tgt iter elt : Expr} {ifs : List Expr} {scope : Scope} {p' pos spos : Pos} {Q : Fl → Loc → Sig → Prop} (ok : (mkC S sc ro room g).Ok) (hk : kdOf sc y = some .local) (hc : ∀ x, kdOf sc x = some .cell → (g.env.cells.lookup x).isSome) (hok : compOk scope sc = true)
    (hsw : swapsWith (.ListComp elt [⟨tgt, iter, ifs, 0⟩] scope pos) (some (.Name y p')) spos.line g.env = pure true)
    (h : Ev (mkC S sc ro room g) iter ρ σ (fun p σ₁ => ∃ fz pvs, Iterates (mkC S sc ro room g) tgt p σ₁ fz pvs ∧ (∀ b ∈ fz, ∃ o, σ₁ b = some o) ∧ pvs.length ≤ 100000 ∧
      ∀ g', (mkC S (compSc scope) (fz ++ ro) room g').Ok → CompL (mkC S (compSc scope) (fz ++ ro) room g') tgt ifs elt (locC scope ρ) (fun ps σ₂ => ∀ a, σ₂ a = none → Q .next (ρ.set y (.ref a)) (σ₂.set a (.list ps))) pvs σ₁ []) X)
    (hs : ∀ x, foldedSetIterable iter g.env x = pure x := by intro _; rfl) : Ex (mkC S sc ro room g) (.Assign [.Name y p'] (.ListComp elt [⟨tgt, iter, ifs, 0⟩] scope pos) spos) ρ σ Q X := by
  refine ⟨fun s x => ?_⟩
  show wpAny (model S.prog S.w) g.A (exec (.Assign [.Name y p'] (.ListComp elt [⟨tgt, iter, ifs, 0⟩] scope pos) spos) g.env) _ _ s
  rw [exec_Assign_Name_used _ _ _ _ hsw]
  refine wpAny_bind (wpAny_standAt (wpAny_bind ?_))
  show wpAny _ _ (do let _ ← comprehension (.ListComp elt [⟨tgt, iter, ifs, 0⟩] scope pos) scope g.env _ (newList []) false (eval iter g.env) (some (PySem.assign (Expr.Name y p') g.env))) _ _ s
  have hfree : ∀ x ∈ scope.names, x.2 = .free → (g.env.cells.lookup x.1).isSome = true := fun y hy hf => hc _ (compOk_free hok hy hf)
  have hnames : ∀ y ∈ scope.names, y.2 = .local → scope.names.lookup y.1 = some .local := fun y hy hl => by
    have := compOk_other hok hy (by rw [hl]; decide)
    rw [hl] at this; exact this
  refine wpAny_bind (wpAny_mono (wpAny_comprehension_free (use := some (PySem.assign (Expr.Name y p') g.env)) (Q := fun _ s' => PostS (mkC S sc ro room g) σ s Q .next s') rfl hs (closureFor_eq hfree) (compOk_kind hok) hnames
    (wpAny_mono (h.run s x) (fun v s₁ hq₁ => ?_) fun _ _ e => e)) (fun _ s' hq => wpAny_pure (wpAny_pure hq)) fun _ _ e => e)
  obtain ⟨p, σ₁, hv, x₁, k₁, fz, pvs, hit, hfz, hlen, hL⟩ := hq₁
  refine comp_block (RR := fun acc Cl => compPost (model S.prog S.w) g.A _ (some (PySem.assign (Expr.Name y p') g.env)) _ acc Cl) ok hc hok x₁ hv hit hfz hlen hL ?_
  rintro acc Cl r s' ⟨rfl, D, ps, σ₂, m, rfl, hn, h0, x', k', hσ, hσD, hq⟩
  show wpAny _ _ (PySem.assign (Expr.Name y p') g.env (.ref D)) _ _ _
  refine wpAny_assign_Name (wp_store ok x' (.ref D) (.inl hk) fun s₃ x₃ k₃ => ?_)
  have hCo : Cl ∉ (mkC S sc ro room g).own := x₁.fresh_own h0
  have hC₃ : s₃.heap.get? Cl = s'.heap.get? Cl := by
    obtain ⟨o, es, ep, ho, hd, _⟩ := id hn
    obtain ⟨o', e', q⟩ := k₃.kept Cl o ho (by
      rintro (h | ⟨h, _⟩)
      · exact hCo h
      · rw [hσ] at h; cases h)
    rcases q with rfl | ⟨q, _⟩
    · rw [e', ho]
    · exact (x₁.fresh_fs h0 q).elim
  have hn₃ : s₃.heap.Ns Cl m := by
    obtain ⟨o, es, ep, ho, r⟩ := hn
    exact ⟨o, es, ep, by rw [hC₃]; exact ho, r⟩
  refine ⟨m, hn₃, fun h' hs' => ?_⟩
  have x₁' : St (mkC S sc ro room g) ρ σ₁ s₁ := x₁
  have ext : ∀ b o, b ≠ Cl → s₃.heap.get? b = some o → h'.get? b = some o := fun b o hb e => hs'.extBut b o hb e
  obtain ⟨o, es, ep, ho, hd, _⟩ := id hn₃
  have x₄ : St (mkC S sc ro room g) (ρ.set y (.ref D)) (σ₂.set D (.list ps)) { s₃ with heap := h', toks := s₃.toks } := x₃.aside ok ⟨hCo, x₁.fresh_fs h0, .inr hσ⟩ (x₁.fresh_base h0) hσ (by
    rintro vs ⟨o', e, _, n, r⟩
    rw [ho] at e; cases e; rw [hd] at r; cases r) (fun z c e q => by
    obtain ⟨v, o', e', r⟩ := x₃.fr.cells z c e
    rw [q, ho] at e'; cases e'; rw [hd] at r; cases r) ext
  have k₄ : Step (mkC S sc ro room g) σ₁ s₁ (σ₂.set D (.list ps)) { s₃ with heap := h', toks := s₃.toks } := Stp.but h0 (k'.trans k₃) ext
  exact ⟨.next, _, _, trivial, x₄, k₁.trans k₄, hq D hσD⟩
end

/-- a comprehension that alters nothing -/
theorem CompL.pure {C : Cx} {tgt elt : Expr} {ifs : List Expr} {ρ : Loc} {σ : Sig} {Q : List PV → Sig → Prop} (b : PV → Bool) (f : PV → PV) : ∀ (pvs acc : List PV),
    (∀ p ∈ pvs, ∃ ρ₁, Bind1 C tgt p ρ ρ₁ ∧ LSub ρ ρ₁ ∧ Tes C ifs ρ₁ σ (fun c σ₁ => c = b p ∧ σ₁ = σ) ∧ (b p = true → Ev C elt ρ₁ σ (fun q σ₂ => q = f p ∧ σ₂ = σ) noX)) →
    Q (acc ++ (pvs.filter b).map f) σ → CompL C tgt ifs elt ρ Q pvs σ acc
  | [], acc, _, h => by show Q acc σ; simpa using h
  | p :: ps, acc, hp, h => by
    obtain ⟨ρ₁, h1, h2, h3, h4⟩ := hp p List.mem_cons_self
    refine ⟨ρ₁, h1, h2, ?_⟩
    have key : ∀ (cs : List Expr) (σ' : Sig) (Q₁ Q₂ : Bool → Sig → Prop), (∀ c σ, Q₁ c σ → Q₂ c σ) → Tes C cs ρ₁ σ' Q₁ → Tes C cs ρ₁ σ' Q₂ := by
      intro cs
      induction cs with
      | nil => intro σ' Q₁ Q₂ hq h; exact hq _ _ h
      | cons c cs ih =>
        intro σ' Q₁ Q₂ hq h
        refine ⟨fun s x => wpAny_mono (Te.run h s x) (fun c s' ⟨σ', a1, a2, a3⟩ => ⟨σ', a1, a2, ?_⟩) fun _ _ e => e⟩
        cases c with
        | true => exact ih _ _ _ hq a3
        | false => exact hq _ _ a3
    refine key _ _ _ _ ?_ h3
    rintro c σ' ⟨rfl, rfl⟩
    cases hb : b p with
    | false =>
      refine CompL.pure b f ps acc (fun q hq => hp q (List.mem_cons_of_mem _ hq)) ?_
      simpa [hb] using h
    | true =>
      refine Ev.mono (h4 hb) ?_
      rintro q σ₂ ⟨rfl, rfl⟩
      refine CompL.pure b f ps _ (fun q hq => hp q (List.mem_cons_of_mem _ hq)) ?_
      simpa [hb] using h
end SR

set_option maxRecDepth 100000
set_option linter.unusedVariables false
set_option linter.unusedSectionVars false
set_option linter.unusedSimpArgs false
namespace SR
open PySem

section
variable {C : Cx} {ρ : Loc} {σ : Sig} {X : String → Sig → Prop} {Q : PV → Sig → Prop}
theorem OpS.pair0 {value slice : Expr} {a b : PV} (h : Q a σ) (hs : noSlice slice = true := by rfl) : OpS C value slice (.tup [a, b]) (.int 0) ρ σ Q X := OpS.tuple (j := 0) rfl rfl (by decide) (by decide) h hs
theorem OpS.pair1 {value slice : Expr} {a b : PV} (h : Q b σ) (hs : noSlice slice = true := by rfl) : OpS C value slice (.tup [a, b]) (.int 1) ρ σ Q X := OpS.tuple (j := 1) rfl rfl (by decide) (by decide) h hs
theorem OpN.values {d : Addr} {kvs : List (Str × PV)} (hd : σ d = some (.dict kvs)) (h : ∀ a, σ a = none → Q (.ref a) (σ.set a (.vals d))) : OpN C (.builtin "dict.values") [.ref d] ρ σ Q X := by
  refine ⟨fun s vs x hv => ?_⟩
  obtain ⟨v1, ws, rfl, r1, rs⟩ := hv.cons_inv
  obtain rfl := rs.nil_inv
  cases r1
  obtain ⟨hsm, ws, hm, dp⟩ := (x.sig _ _ hd).2
  refine call_meetsIn F.slot_dict_values hm.typeIs F.entry_dict_values (F.args_dict_values_1 _) (meets_dict_values (strKind _ _) d hsm) ⟨⟨_, hm⟩, ?_⟩
  exact Post.alloc (t := s.toks) (.vals d) x (fun b o e => Heap.get?_push_of_some _ e) (heap_fresh _) ⟨_, Heap.get?_push_size _ rfl, rfl, rfl⟩ (h _)
theorem OpN.keys {d : Addr} {kvs : List (Str × PV)} (hd : σ d = some (.dict kvs)) (h : ∀ a, σ a = none → Q (.ref a) (σ.set a (.keys d))) : OpN C (.builtin "dict.keys") [.ref d] ρ σ Q X := by
  refine ⟨fun s vs x hv => ?_⟩
  obtain ⟨v1, ws, rfl, r1, rs⟩ := hv.cons_inv
  obtain rfl := rs.nil_inv
  cases r1
  obtain ⟨hsm, ws, hm, dp⟩ := (x.sig _ _ hd).2
  refine call_meetsIn F.slot_dict_keys hm.typeIs F.entry_dict_keys (F.args_dict_keys_1 _) (PySem.W.kdl_meets_keys (strKind _ _) d hsm) ⟨⟨_, hm⟩, ?_⟩
  exact Post.alloc (t := s.toks) (.keys d) x (fun b o e => Heap.get?_push_of_some _ e) (heap_fresh _) ⟨_, Heap.get?_push_size _ rfl, rfl, rfl⟩ (h _)
/-- list(d.keys()) -/
theorem OpN.list_keys {v d : Addr} {kvs : List (Str × PV)} (ok : C.Ok) (hv : σ v = some (.keys d)) (hd : σ d = some (.dict kvs)) (hsz : kvs.length ≤ 1000) (h : ∀ a, σ a = none → Q (.ref a) (σ.set a (.list (kvs.map fun kv => .str kv.1)))) :
    OpN C (.type "list") [.ref v] ρ σ Q X := by
  refine ⟨fun s vs x hvs => ?_⟩
  obtain ⟨v1, ws, rfl, r1, rs⟩ := hvs.cons_inv
  obtain rfl := rs.nil_inv
  cases r1
  have hvw : PySem.W.KdlKeysView s.heap v d := (x.sig _ _ hv).2
  obtain ⟨hsm, ws, hm, dp⟩ := (x.sig _ _ hd).2
  obtain ⟨ep, hm'⟩ := hm.dictAt
  refine PySem.W.kdl_call (PySem.W.kdl_keys (knd := strKind C.S.prog C.S.w) (kvs := ws) (ep := ep)) ok.hh ⟨hvw, hm'⟩ (by rw [dp.length]; show _ ≤ 2 ^ 24; omega) fun h' tk acc c hk hS hacc => ?_
  refine Post.alloc (t := tk) (.list (kvs.map fun kv => .str kv.1)) x hk (heap_fresh _) ⟨acc.toList, ⟨c, by rw [Array.toArray_toList]; exact hS⟩, ?_⟩ (h _)
  refine VRs.of_get (by rw [Array.length_toList, List.length_map, hacc.1, dp.length]) fun j u p hu hp => ?_
  obtain ⟨k, y, hj, hkey⟩ := hacc.2 j u (by rw [← Array.getElem?_toList]; exact hu)
  obtain ⟨q, hq, _⟩ := dp.at hj
  rw [List.getElem?_map, hq] at hp
  cases hp
  obtain ⟨t, rfl⟩ := Value.isStrOf_shape hkey
  exact .str _ _
/-- sum(d.values()) -/
theorem OpN.sum_vals {v d : Addr} {l : List (Str × Int)} (ok : C.Ok) (hv : σ v = some (.vals d)) (hd : σ d = some (.dict (sd l))) (h : Q (.int (l.map (·.2)).sum) σ) : OpN C (.builtin "sum") [.ref v] ρ σ Q X := by
  refine ⟨fun s vs x hvs => ?_⟩
  obtain ⟨v1, ws, rfl, r1, rs⟩ := hvs.cons_inv
  obtain rfl := rs.nil_inv
  cases r1
  have hvw : s.heap.IsValuesView v d := (x.sig _ _ hv).2
  obtain ⟨hsm, ws, hm, dp⟩ := (x.sig _ _ hd).2
  obtain ⟨ep, hm'⟩ := hm.dictAt
  have K := PySem.W.kdl_values (r := v) (knd := strKind C.S.prog C.S.w) (kvs := ws) (ep := ep) (d := d)
  have hok : s.heap.IsValuesView v d ∧ s.heap.DictAt (strKind C.S.prog C.S.w) d ws ep := ⟨hvw, hm'⟩
  refine call_sum_walkAnyS ?_
  obtain ⟨oI, St', hit, W, st⟩ := K.iter C.A.in1 s ok.hh hok
  refine hit _ _ ⟨s.heap.objs.size, _, _, _, ws.length, _, _, fun i => (l.map (·.2)).getD i 0, rfl, W.toS, st, fun b hb => ?_, fun i u hu => ?_, fun s' t' hm => ?_⟩
  · show b < (s.heap.push oI).objs.size
    rw [Heap.size_push]
    rcases List.mem_cons.mp hb with e | hb
    · rw [e]; exact Nat.lt_succ_self _
    · rw [List.mem_singleton.mp hb]; exact Nat.lt_succ_of_lt (K.there _ hok).2
  · obtain ⟨k, hj⟩ := hu
    obtain ⟨q, hq, r⟩ := dp.at hj
    have hq' : (l[i]?).map (fun x => (x.1, PV.int x.2)) = some (k, q) := by simpa [sd] using hq
    obtain ⟨y, hy, e⟩ := Option.map_eq_some_iff.mp hq'
    cases e
    cases r with
    | int i' t => exact ⟨t, by simp [hy]⟩
  · have hk : ∀ b o, s.heap.get? b = some o → s'.heap.get? b = some o := fun b o e =>
      hm.heap b o (fun hI => absurd (Heap.lt_size e) (by rw [List.mem_singleton.mp hI]; exact Nat.lt_irrefl _)) (Heap.get?_push_of_some _ e)
    rw [Moved.eq_with hm]
    have e : preSum (fun i => (l.map (·.2)).getD i 0) ws.length = (l.map (·.2)).sum := by
      rw [PyProof.Rows.preSum_getD, List.take_of_length_le (by rw [dp.length, sd_length, List.length_map]; exact Nat.le_refl _)]
    rw [e]
    exact ⟨.int _, σ, .int _ _, x.ext hk, Stp.ext hk, h⟩
end

/-! plain facts about stocks -/
theorem sSet_nodup {l : List (Str × Int)} {k : Str} {i : Int} (h : (l.map (·.1)).Nodup) : ((sSet l k i).map (·.1)).Nodup := by
  rw [sSet_keys]; split
  · exact h
  · next hk => exact List.nodup_append.mpr ⟨h, by simp, fun a ha b hb e => by simp at hb; subst hb; subst e; exact hk ha⟩
theorem sGet_isSome {l : List (Str × Int)} {k : Str} : (sGet l k).isSome = decide (k ∈ l.map (·.1)) := by
  induction l with
  | nil => simp [sGet]
  | cons x l ih =>
    by_cases h : x.1 = k
    · simp [sGet, h]
    · have h' : ¬ k = x.1 := fun e => h e.symm
      rw [List.map_cons]
      have e : decide (k ∈ x.1 :: l.map (·.1)) = decide (k ∈ l.map (·.1)) := by simp [h']
      rw [e, ← ih]; simp [sGet, h]
theorem sGet_cons (x : Str × Int) (l : List (Str × Int)) (k : Str) : sGet (x :: l) k = if x.1 = k then some x.2 else sGet l k := by
  unfold sGet; by_cases h : x.1 = k <;> simp [h]
theorem sDel_sSet (l : List (Str × Int)) (k : Str) (i : Int) : sDel (sSet l k i) k = sDel l k := by
  unfold sSet sDel
  split
  · induction l with
    | nil => simp
    | cons x l ih =>
      by_cases h : x.1 = k
      · by_cases h2 : (l.any fun x => decide (x.1 = k)) = true
        · simpa [h] using ih h2
        · have : l.map (fun x => if x.1 = k then (x.1, i) else x) = l := by
            refine (List.map_congr_left fun y hy => ?_).trans (List.map_id _)
            have : ¬ y.1 = k := fun e => h2 (List.any_eq_true.mpr ⟨y, hy, by simpa using e⟩)
            simp [this]
          simp [h, this]
      · next h3 =>
        have h2 : (l.any fun x => decide (x.1 = k)) = true := by simpa [h] using h3
        simpa [h] using ih h2
  · simp
theorem sGet_mem {l : List (Str × Int)} (hn : (l.map (·.1)).Nodup) {x : Str × Int} (hx : x ∈ l) : sGet l x.1 = some x.2 := by
  induction l with
  | nil => cases hx
  | cons y l ih =>
    rw [sGet_cons]
    rcases List.mem_cons.mp hx with rfl | hx
    · simp
    · have hn' := List.nodup_cons.mp hn
      have : y.1 ≠ x.1 := fun e => hn'.1 (List.mem_map.mpr ⟨x, hx, e.symm⟩)
      rw [if_neg this]; exact ih hn'.2 hx
theorem tes_end {C : Cx} {ρ : Loc} {σ : Sig} {Q : Bool → Sig → Prop} {b : Bool} (h : Q b σ) : if b = true then Tes C [] ρ σ Q else Q false σ := by cases b <;> exact h
theorem rows_filter (l : List (Str × Int)) (b : PV → Bool) (c : Str × Int → Bool) (h : ∀ x ∈ l, b (row x) = c x) : (rows l).filter b = rows (l.filter c) := by
  unfold rows
  rw [List.filter_map]
  congr 1
  exact List.filter_congr h
end SR

set_option maxRecDepth 100000
set_option linter.unusedVariables false
set_option linter.unusedSectionVars false
set_option linter.unusedSimpArgs false
namespace SR
open PySem

section
variable {C : Cx} {ρ : Loc} {σ : Sig} {X : String → Sig → Prop}
theorem Te.val {e : Expr} {Q : Bool → Sig → Prop} (h : Ev C e ρ σ (fun a σ₁ => OpT C a ρ σ₁ Q X) X) (hp : isTrue e C.env (eval e C.env) = (do let v ← eval e C.env; standAt e.pos; holding [v] (truthy v)) := by rfl) : Te C e ρ σ Q X := by
  refine ⟨fun s x => ?_⟩
  refine PyProof.Rows.isTrue_plain (wp_use (α := Unit) (h.run s x) (fun va s₁ a σ₁ ra x₁ k₁ t₁ h₁ => ?_) x) hp
  exact wp_on k₁ (h₁.run s₁ va x₁ ra) fun _ _ p => p.step k₁
/-- for, with a ground of one's choice for the turns -/
theorem Ex.forD {tgt iter : Expr} {body : List Stmt} {pos : Pos} {Q : Fl → Loc → Sig → Prop} (ok : C.Ok)
    (h : Ev C iter ρ σ (fun p σ₁ => ∃ fz pvs σ₀, Iterates C tgt p σ₁ fz pvs ∧ Sub σ₀ σ₁ ∧ (∀ b ∈ fz, ∃ o, σ₀ b = some o) ∧ ForL (C.frz fz) tgt body pvs ρ σ₀ Q) X)
    (hs : ∀ x, foldedSetIterable iter C.env x = pure x := by intro _; rfl) : Ex C (.For tgt iter body [] pos) ρ σ Q X := by
  refine ⟨fun s x => ?_⟩
  refine wpAny_For (wp_use (α := Unit) (h.run s x) (fun v s₁ p σ₁ r x₁ k₁ t₁ h₁ => ?_) x) hs
  obtain ⟨fz, pvs, σ₀, hit, hsub, hfz, hfor⟩ := h₁
  refine hit ρ s₁ v _ _ x₁ r fun I fp J h' tk hk hI W hJ hfp => ?_
  have W' : AIter (C.frz fz).S.prog (C.frz fz).S.w (C.frz fz).A I tgt fp J := W
  have x₀ : St C ρ σ₀ s₁ := x₁.drop (fun _ _ e => e) hsub
  have x₂ := (x₀.ext (t := tk) hk).frz fz
  have k₂ : Step (C.frz fz) σ₀ s₁ σ₀ { s₁ with heap := h', toks := tk } := Stp.ext hk
  have := forLoop_sound (ok.frz fz) W' s₁ σ₀ hI _ pvs x₂ k₂ hJ (ground_of (t := tk) x₀ hI hfz hfp) hfor
  refine codeAny_mono this ?_
  rintro r s' ⟨f, rfl, fl, ρ', σ', h1, h2, h3, h4⟩
  exact ⟨fl, ρ', σ', h1, h2.unfrz, (k₁.dropR hsub).trans h3.unfrz, h4⟩
end
section
variable {S : Sx} {sc : Scope} {ro ro' : List Addr} {room : Nat} {g : Gh} {ρ : Loc} {σ : Sig} {X : String → Sig → Prop} {Q : Fl → Loc → Sig → Prop}
theorem Ex.forN {tgt iter : Expr} {body : List Stmt} {pos : Pos} (ok : (mkC S sc ro room g).Ok)
    (h : Ev (mkC S sc ro room g) iter ρ σ (fun p σ₁ => ∃ fz pvs σ₀, Iterates (mkC S sc ro room g) tgt p σ₁ fz pvs ∧ Sub σ₀ σ₁ ∧ (∀ b ∈ fz, ∃ o, σ₀ b = some o) ∧ ForL (mkC S sc (fz ++ ro) room g) tgt body pvs ρ σ₀ Q) X)
    (hs : ∀ x, foldedSetIterable iter g.env x = pure x := by intro _; rfl) : Ex (mkC S sc ro room g) (.For tgt iter body [] pos) ρ σ Q X := Ex.forD ok h hs
theorem Fn.weaken {fa : Addr} {ps : List PV} {Q : PV → Sig → Prop} (h : Fn S fa ro room ps σ (fun p σ₂ => ∃ σ₁, Sub σ₁ σ₂ ∧ Q p σ₁)) : Fn S fa ro room ps σ Q := fun A frs s vs r g v =>
  codeAny_mono (h A frs s vs r g v) fun _ _ ⟨v, p, σ', h1, h2, h3, h4, σ₁, h5, h6⟩ =>
    ⟨v, p, σ₁, h1, h2, ⟨h3.base, h3.os, h3.gens, fun a o e => h3.sig a o (h5 a o e), h3.frames, fun a o e => h3.offF a o (h5 a o e)⟩, h4.dropR h5, h6⟩
end

/-! deliveries -/
theorem sRecv_nodup {l : List (Str × Int)} {k : Str} {n : Int} (h : (l.map (·.1)).Nodup) : ((sRecv l k n).map (·.1)).Nodup := sSet_nodup h
theorem sRecv_length_le (l : List (Str × Int)) (k : Str) (n : Int) : (sRecv l k n).length ≤ l.length + 1 := sSet_length_le _ _ _
theorem take_snoc {α : Type} {l : List α} {i : Nat} {x : α} (h : l[i]? = some x) : l.take (i + 1) = l.take i ++ [x] := by rw [List.take_add_one, h]; rfl
theorem lt_of_get {α : Type} {l : List α} {i : Nat} {x : α} (h : l[i]? = some x) : i < l.length := by
  obtain ⟨h, _⟩ := List.getElem?_eq_some_iff.mp h; exact h
theorem rows_get {l : List (Str × Int)} {i : Nat} {p : PV} (h : (rows l)[i]? = some p) : ∃ x, l[i]? = some x ∧ p = row x := by
  rw [rows, List.getElem?_map] at h
  obtain ⟨x, hx, rfl⟩ := Option.map_eq_some_iff.mp h
  exact ⟨x, hx, rfl⟩
theorem not_ro {σ : Sig} {ro : List Addr} {b : Addr} (hro : ∀ a ∈ ro, (σ a).isSome = true) (hb : σ b = none) : b ∉ ro := fun h => by have := hro b h; rw [hb] at this; cases this
theorem ne_dl {σ : Sig} {a b : Addr} {kvs : List (Str × PV)} {ps : List PV} (h1 : σ a = some (.dict kvs)) (h2 : σ b = some (.list ps)) : a ≠ b := fun e => by subst e; rw [h1] at h2; cases h2
theorem rows_filter_true (l : List (Str × Int)) : (rows l).filter (fun _ => true) = rows l := List.filter_eq_self.mpr fun _ _ => rfl
def pv0 : PV → PV
  | .tup (a :: _) => a
  | p => p
def pv1 : PV → PV
  | .tup (_ :: a :: _) => a
  | p => p
theorem rows_pv1 (l : List (Str × Int)) : (rows l).map pv1 = (l.map (·.2)).map .int := by simp [rows, row, pv1]
end SR

set_option maxRecDepth 100000
set_option linter.unusedVariables false
set_option linter.unusedSectionVars false
set_option linter.unusedSimpArgs false
namespace SR
open PySem

theorem get?_push2 (h : Heap) (o1 o2 : Obj) (ho : o2.isFreed = false) : ((h.push o1).push o2).get? (h.objs.size + 1) = some o2 := by
  rw [← Heap.size_push h o1]; exact Heap.get?_push_size _ ho
/-! the order of texts -/
def sLe (a b : Str) : Prop := ¬ b.cps.toList < a.cps.toList

theorem strsAre_of {h : Heap} : ∀ {vs : List Value} {xs : List Str}, VRs h vs (xs.map .str) → PyProof.Rows.StrsAre vs xs
  | vs, [], r => by rw [r.nil_inv]; exact .nil
  | vs, x :: xs, r => by
    obtain ⟨v, ws, rfl, r1, rs⟩ := VRs.cons_inv r
    cases r1
    exact .cons _ _ (strsAre_of rs)
theorem vrs_of_strs {h : Heap} {vs : List Value} {xs : List Str} (r : PyProof.Rows.StrsAre vs xs) : VRs h vs (xs.map .str) := by
  induction r with
  | nil => exact .nil
  | cons x t _ ih => exact .cons (.str _ _) ih

section
variable {C : Cx} {ρ : Loc} {σ : Sig} {X : String → Sig → Prop} {Q : PV → Sig → Prop}
theorem sLe_trans {a b c : Str} (h1 : sLe a b) (h2 : sLe b c) : sLe a c := Std.le_trans (a := a.cps.toList) (b := b.cps.toList) (c := c.cps.toList) h1 h2
theorem pairwise_of_rising : ∀ (p : Str) (l : List Str), PyProof.Rows.risingS p l = true → (p :: l).Pairwise sLe
  | p, [], _ => by simp
  | p, x :: r, h => by
    have h' : (!PySem.Spec.ltCps x.cps.toList p.cps.toList && PyProof.Rows.risingS x r) = true := h
    rw [Bool.and_eq_true] at h'
    have h1 : sLe p x := by
      have := h'.1
      rw [PyProof.Rows.ltCps_eq] at this
      simpa [sLe] using this
    have ih := pairwise_of_rising x r h'.2
    refine List.pairwise_cons.mpr ⟨fun y hy => ?_, ih⟩
    rcases List.mem_cons.mp hy with e | hy
    · rw [e]; exact h1
    · exact sLe_trans h1 ((List.pairwise_cons.mp ih).1 y hy)
theorem pairwise_of_sorted : ∀ (l : List Str), PyProof.Rows.sortedS l = true → l.Pairwise sLe
  | [], _ => by simp
  | x :: r, h => pairwise_of_rising x r h
theorem OpN.sort {l : Addr} {xs : List Str} (ok : C.Ok) (hl : σ l = some (.list (xs.map .str))) (hro : l ∉ C.ro) (h64 : xs.length < 64) (h : ∀ ys : List Str, ys.Perm xs → ys.Pairwise sLe → Q .none (σ.set l (.list (ys.map .str)))) : OpN C (.builtin "list.sort") [.ref l] ρ σ Q X := by
  refine ⟨fun s vs x hv => ?_⟩
  obtain ⟨v1, ws, rfl, r1, rs⟩ := hv.cons_inv
  obtain rfl := rs.nil_inv
  cases r1
  obtain ⟨us, pl, hs⟩ := (x.sig _ _ hl).2
  obtain ⟨n, ho⟩ := id pl
  have hS := strsAre_of hs
  have hlen : us.length < 64 := by rw [hs.length, List.length_map]; exact h64
  refine wpAny_call_entry PyProof.Rows.slot_list_sort ⟨_, ho, rfl⟩ PyProof.Rows.entry_list_sort (PyProof.Rows.list_sort_treeK PyProof.Rows.strKind_oneLt (n := n) (vs := us) ho hS.keysOf (fun v₁ v₂ rest e => PyProof.Rows.keyKind_strs (by rw [← e]; exact hS)) hlen fun st' hp hst => ⟨.none, rfl, ?_⟩) (PyProof.Rows.args_list_sort _)
  obtain ⟨ys, h1, h2, h3'⟩ := PyProof.Rows.sorted_out_str hS hp hst
  have h3 := pairwise_of_sorted ys h3'
  have ext : ∀ b o, b ≠ l → s.heap.get? b = some o → (PyProof.Rows.sortedHeap s.heap l us ((PyProof.Rows.arrOf st').map (·.2))).get? b = some o := fun b o hb e => by
    rw [PyProof.Rows.sortedHeap_old hb (Heap.lt_size e)]; exact e
  obtain ⟨n', hat⟩ := PyProof.Rows.sortedHeap_at (out := (PyProof.Rows.arrOf st').map (·.2)) ho
  exact Post.upd (t := s.toks) (.list (ys.map .str)) ok x hl hro ext ⟨_, ⟨n', by rw [Array.toArray_toList]; exact hat⟩, vrs_of_strs h1⟩ .none (h ys h2 h3)

/-- list + list -/
theorem Op2.addl {a b : Addr} {ps qs : List PV} (ha : σ a = some (.list ps)) (hb : σ b = some (.list qs)) (hsz : ps.length + qs.length ≤ 1000) (h : ∀ c, σ c = none → Q (.ref c) (σ.set c (.list (ps ++ qs)))) : OpBin C .Add (.ref a) (.ref b) ρ σ Q X := by
  refine ⟨fun s v u x hv hu => ?_⟩
  cases hv; cases hu
  obtain ⟨us, pl, hs⟩ := (x.sig _ _ ha).2
  obtain ⟨ws, pl', hs'⟩ := (x.sig _ _ hb).2
  obtain ⟨n, ho⟩ := id pl
  obtain ⟨n', ho'⟩ := id pl'
  have kp : ∀ b o, s.heap.get? b = some o → (s.heap.push { cls := .type "list", data := .seq (us.toArray ++ ws.toArray) }).get? b = some o := fun b o e => Heap.get?_push_of_some _ e
  refine P.add_list (n := n) (n2 := n') ho ho' ?_ (by show us.toArray.size + ws.toArray.size ≤ 2 ^ 24; rw [List.size_toArray, List.size_toArray, hs.length, hs'.length]; omega)
  exact Post.alloc (t := s.toks) (.list (ps ++ qs)) x kp (heap_fresh _) ⟨us ++ ws, ⟨0, by simpa using Heap.get?_push_size _ rfl⟩, (hs.append hs').mono (.of_ext kp)⟩ (h _)
/-- x[-1] -/
theorem OpS.neg {value slice : Expr} {l : Addr} {ps : List PV} {k : Int} {p : PV} (hl : σ l = some (.list ps)) (h0 : k < 0) (hlo : -(ps.length : Int) ≤ k) (hsz : ps.length ≤ 1000) (hp : ps[(k + ps.length).toNat]? = some p) (h : Q p σ) (hs : noSlice slice = true := by rfl) :
    OpS C value slice (.ref l) (.int k) ρ σ Q X := by
  refine ⟨fun s v u x hv hu => ?_⟩
  cases hu; cases hv
  obtain ⟨vs, pl, rs⟩ := (x.sig l _ hl).2
  obtain ⟨v, hv, r⟩ := rs.get _ p hp
  have e : vs.toArray.size = ps.length := by rw [List.size_toArray, rs.length]
  exact PyProof.Rows.tail_any pl.isList.typeIs slot_list_getitem.lookup (wpAny_getItem_list_neg pl.isList h0 (by rw [e]; exact hlo) (by omega) (by rw [e]; simpa using hv) (.here x r h)) (noSlice_is hs _ _)
def upto (ps : List PV) (i : Int) : List PV := if i < 0 then ps.take (ps.length - (-i).toNat) else ps.take i.toNat
/-- x[:e] -/
theorem Ev.sliceTo {value e : Expr} {p pos : Pos} (h : Ev C value ρ σ (fun a σ₁ => Ev C e ρ σ₁ (fun b σ₂ => ∃ l ps i, a = .ref l ∧ b = .int i ∧ σ₂ l = some (.list ps) ∧ ps.length ≤ 1000 ∧ ∀ c, σ₂ c = none → Q (.ref c) (σ₂.set c (.list (upto ps i)))) X) X)
    (ht : ∀ o r, letTemporaryGo value o r = pure () := by intro _ _; rfl) : Ev C (.Subscript value (.Slice none (some e) none p) pos) ρ σ Q X := by
  refine ⟨fun s x => ?_⟩
  refine wpAny_Subscript_list_slice (wp_use (α := Unit) (h.run s x) (fun va s₁ a σ₁ ra x₁ k₁ t₁ h₁ => ?_) x) ht
  rw [evalPart_none]
  refine wpAny_pure ?_
  show wpAny _ _ (evalPart (some e) C.env) _ _ s₁
  rw [show evalPart (some e) C.env = eval e C.env from rfl]
  refine wp_on k₁ (wp_use (α := Unit) (h₁.run s₁ x₁) (fun vb s₂ b σ₂ rb x₂ k₂ t₂ h₂ => ?_) x₁) fun _ _ p => p
  obtain ⟨l, ps, i, rfl, rfl, hl, hsz, hq⟩ := h₂
  cases ra; cases rb
  obtain ⟨us, pl, hs⟩ := (x₂.sig _ _ hl).2
  have eu : slicePick us.toArray none (some i) none = (if i < 0 then us.take (us.length - (-i).toNat) else us.take i.toNat).toArray := by
    by_cases hi : i < 0
    · have := slicePick_butLast us.toArray (-i).toNat (by omega)
      rw [show (-((-i).toNat : Int)) = i by omega] at this
      rw [this, if_pos hi]; simp
    · have := slicePick_upto' us.toArray i.toNat
      rw [show ((i.toNat : Nat) : Int) = i by omega] at this
      rw [this, if_neg hi]
  have hv : VRs s₂.heap (if i < 0 then us.take (us.length - (-i).toNat) else us.take i.toNat) (upto ps i) := by
    unfold upto
    split
    · rw [hs.length]; exact hs.take _
    · exact hs.take _
  refine ⟨l, us.toArray, none, some i, rfl, pl.isList, by show us.toArray.size ≤ 2 ^ 24; rw [List.size_toArray, hs.length]; omega, .none, .int _ _, ?_⟩
  rw [eu]
  have kp : ∀ (o1 o2 : Obj) b o, s₂.heap.get? b = some o → ((s₂.heap.push o1).push o2).get? b = some o := fun o1 o2 b o e => Heap.get?_push_of_some _ (Heap.get?_push_of_some _ e)
  have fr : s₂.heap.get? (s₂.heap.objs.size + 1) = none := by
    cases q : s₂.heap.get? (s₂.heap.objs.size + 1) with
    | none => rfl
    | some o => exact absurd (Heap.lt_size q) (Nat.not_lt.mpr (Nat.le_succ _))
  exact (Post.alloc (t := s₂.toks) (.list (upto ps i)) x₂ (kp _ _) fr ⟨_, ⟨0, get?_push2 _ _ _ rfl⟩, hv.mono (.of_ext (kp _ _))⟩ (hq _)).step (k₁.trans k₂)
/-- x[e:] -/
theorem Ev.sliceFrom {value e : Expr} {p pos : Pos} (h : Ev C value ρ σ (fun a σ₁ => Ev C e ρ σ₁ (fun b σ₂ => ∃ l ps, ∃ i : Nat, a = .ref l ∧ b = .int i ∧ σ₂ l = some (.list ps) ∧ ps.length ≤ 1000 ∧ ∀ c, σ₂ c = none → Q (.ref c) (σ₂.set c (.list (ps.drop i)))) X) X)
    (ht : ∀ o r, letTemporaryGo value o r = pure () := by intro _ _; rfl) : Ev C (.Subscript value (.Slice (some e) none none p) pos) ρ σ Q X := by
  refine ⟨fun s x => ?_⟩
  refine wpAny_Subscript_list_slice (wp_use (α := Unit) (h.run s x) (fun va s₁ a σ₁ ra x₁ k₁ t₁ h₁ => ?_) x) ht
  show wpAny _ _ (evalPart (some e) C.env) _ _ s₁
  rw [show evalPart (some e) C.env = eval e C.env from rfl]
  refine wp_on k₁ (wp_use (α := Unit) (h₁.run s₁ x₁) (fun vb s₂ b σ₂ rb x₂ k₂ t₂ h₂ => ?_) x₁) fun _ _ p => p
  rw [evalPart_none]
  refine wpAny_pure ?_
  obtain ⟨l, ps, i, rfl, rfl, hl, hsz, hq⟩ := h₂
  cases ra; cases rb
  obtain ⟨us, pl, hs⟩ := (x₂.sig _ _ hl).2
  refine ⟨l, us.toArray, some (i : Int), none, rfl, pl.isList, by show us.toArray.size ≤ 2 ^ 24; rw [List.size_toArray, hs.length]; omega, .int _ _, .none, ?_⟩
  rw [slicePick_from' us.toArray i]
  have kp : ∀ (o1 o2 : Obj) b o, s₂.heap.get? b = some o → ((s₂.heap.push o1).push o2).get? b = some o := fun o1 o2 b o e => Heap.get?_push_of_some _ (Heap.get?_push_of_some _ e)
  have fr : s₂.heap.get? (s₂.heap.objs.size + 1) = none := by
    cases q : s₂.heap.get? (s₂.heap.objs.size + 1) with
    | none => rfl
    | some o => exact absurd (Heap.lt_size q) (Nat.not_lt.mpr (Nat.le_succ _))
  exact (Post.alloc (t := s₂.toks) (.list (ps.drop i)) x₂ (kp _ _) fr ⟨us.drop i, ⟨0, get?_push2 _ _ _ rfl⟩, (hs.drop i).mono (.of_ext (kp _ _))⟩ (hq _)).step (k₁.trans k₂)
end
end SR

set_option maxRecDepth 100000
set_option linter.unusedVariables false
set_option linter.unusedSectionVars false
set_option linter.unusedSimpArgs false
namespace SR
open PySem

section
variable {S : Sx} {sc : Scope} {ro : List Addr} {room : Nat} {g : Gh} {ρ : Loc} {σ : Sig} {X : String → Sig → Prop}
theorem swaps_true {y : Str} {elt : Expr} {gs : List Comprehension} {scope : Scope} {p' pos spos : Pos} (ok : (mkC S sc ro room g).Ok) (hk : kdOf sc y = some .local) (hp : (p'.line == pos.line) = true)
    (hn : (scope.names.any fun x => x.1 == y && (x.2 == .local || x.2 == .cell)) = false) : swapsWith (.ListComp elt gs scope pos) (some (.Name y p')) spos.line g.env = pure true := by
  have h1 : g.env.blockKind = .function := by
    have : g.env.scope.kind = .function := ok.kind
    unfold Env.blockKind; rw [this]; rfl
  have h2 : g.env.kindOf y = some .local := ok.kinds y _ hk
  show (pure (g.env.blockKind == .function && g.env.kindOf y == some .local && p'.line == pos.line && !(scope.names.any fun x => x.1 == y && (x.2 == .local || x.2 == .cell))) : Sem Bool) = pure true
  rw [h1, h2, hp, hn]; rfl
theorem Ex.assignC {y : Str} {tgt iter elt : Expr} {ifs : List Expr} {scope : Scope} {p' pos spos : Pos} {Q : Fl → Loc → Sig → Prop} (ok : (mkC S sc ro room g).Ok) (hk : kdOf sc y = some .local) (hc : ∀ x, kdOf sc x = some .cell → (g.env.cells.lookup x).isSome) (hok : compOk scope sc = true)
    (hp : (p'.line == pos.line) = true) (hn : (scope.names.any fun x => x.1 == y && (x.2 == .local || x.2 == .cell)) = false)
    (h : Ev (mkC S sc ro room g) iter ρ σ (fun p σ₁ => ∃ fz pvs, Iterates (mkC S sc ro room g) tgt p σ₁ fz pvs ∧ (∀ b ∈ fz, ∃ o, σ₁ b = some o) ∧ pvs.length ≤ 100000 ∧
      ∀ g', (mkC S (compSc scope) (fz ++ ro) room g').Ok → CompL (mkC S (compSc scope) (fz ++ ro) room g') tgt ifs elt (locC scope ρ) (fun ps σ₂ => ∀ a, σ₂ a = none → Q .next (ρ.set y (.ref a)) (σ₂.set a (.list ps))) pvs σ₁ []) X)
    (hs : ∀ x, foldedSetIterable iter g.env x = pure x := by intro _; rfl) : Ex (mkC S sc ro room g) (.Assign [.Name y p'] (.ListComp elt [⟨tgt, iter, ifs, 0⟩] scope pos) spos) ρ σ Q X :=
  Ex.assignComp ok hk hc hok (swaps_true ok hk hp hn) h hs
end

/-! places in a sorted list -/
abbrev sLt (a b : Str) : Prop := a.cps.toList < b.cps.toList
theorem cps_inj {a b : Str} (h : a.cps.toList = b.cps.toList) : a = b := by
  cases a; cases b; congr; exact Array.toList_inj.mp h
end SR

set_option maxRecDepth 100000
set_option linter.unusedVariables false
set_option linter.unusedSectionVars false
set_option linter.unusedSimpArgs false
namespace SR
open PySem

section
variable {C : Cx} {ρ : Loc} {σ : Sig} {X : String → Sig → Prop} {Q : PV → Sig → Prop}
theorem OpN.min2 {a b : Int} (ok : C.Ok) (h : Q (.int (if b < a then b else a)) σ) : OpN C (.builtin "min") [.int a, .int b] ρ σ Q X := by
  refine ⟨fun s vs x hv => ?_⟩
  obtain ⟨v1, ws, rfl, r1, rs⟩ := hv.cons_inv
  obtain ⟨v2, ws, rfl, r2, rs⟩ := rs.cons_inv
  obtain rfl := rs.nil_inv
  cases r1; cases r2
  refine min_two_ints ok.hh fun h' tk hk => ?_
  split
  · next q => rw [if_pos q] at h; exact ⟨_, σ, .int _ _, x.ext hk, Stp.ext hk, h⟩
  · next q => rw [if_neg q] at h; exact ⟨_, σ, .int _ _, x.ext hk, Stp.ext hk, h⟩
theorem intsAre_of {h : Heap} : ∀ {vs : List Value} {xs : List Int}, VRs h vs (xs.map .int) → PyProof.Rows.IntsAre vs xs
  | vs, [], r => by rw [r.nil_inv]; exact .nil
  | vs, x :: xs, r => by
    obtain ⟨v, ws, rfl, r1, rs⟩ := VRs.cons_inv r
    cases r1
    exact .cons _ _ (intsAre_of rs)
/-- sum(a list of ints) -/
theorem OpN.sum_list {l : Addr} {xs : List Int} (ok : C.Ok) (hl : σ l = some (.list (xs.map .int))) (h : Q (.int xs.sum) σ) : OpN C (.builtin "sum") [.ref l] ρ σ Q X := by
  refine ⟨fun s vs x hv => ?_⟩
  obtain ⟨v1, ws, rfl, r1, rs⟩ := hv.cons_inv
  obtain rfl := rs.nil_inv
  cases r1
  obtain ⟨us, pl, hs⟩ := (x.sig _ _ hl).2
  have hi := intsAre_of hs
  obtain ⟨zs, hz⟩ := hi.allInts.items
  have hl' : s.heap.IsList l (intItems zs) := by rw [← hz]; exact pl.isList
  refine sum_intListG ok.hh hl' fun h' tk t' hk => ?_
  have e : preSum (numAt zs) zs.size = xs.sum := by
    have h1 := hi.numsOf
    have h2 : numsOf us.toArray.toList = numsOf (intItems zs).toList := by rw [hz]
    rw [show us.toArray.toList = us from rfl, h1, nums_intItems] at h2
    rw [preSum_eq, List.take_of_length_le (by simp), h2]
  rw [e]
  exact ⟨_, σ, .int _ _, x.ext hk, Stp.ext hk, h⟩
/-- a, b = .. -/
theorem Ex.assignT {elts : List Expr} {k : _} {tp pos : Pos} {e : Expr} {Q : Fl → Loc → Sig → Prop} (ok : C.Ok) (h : Ev C e ρ σ (fun p σ₁ => ∃ ρ₁, Bind1 C (.Tuple elts k tp) p ρ ρ₁ ∧ Q .next ρ₁ σ₁) X)
    (hs : swapsWithSole [.Tuple elts k tp] e pos.line C.env = pure false := by rfl) (hw : swappedStores [.Tuple elts k tp] e C.env = pure none := by rfl) : Ex C (.Assign [.Tuple elts k tp] e pos) ρ σ Q X := by
  refine ⟨fun s x => ?_⟩
  refine PyProof.Rows.Assign_Tuple (wp_use (α := Unit) (h.run s x) (fun v s₁ p σ₁ r x₁ k₁ t₁ h₁ => ?_) x) hs hw
  obtain ⟨ρ₁, hb, hq⟩ := h₁
  exact wp_assign ok x₁ r hb fun s' x' k' => ⟨.next, ρ₁, σ₁, trivial, x', k₁.trans k', hq⟩

/-! the pairs of a dict -/
def IJ (prog : Program) (w : World) (I d : Addr) (ps : List PV) (h : Heap) : Prop :=
  ∃ i ep ok ov, ∃ ws : List (Str × Value), ∃ rest : List (Str × PV), IsItemIter h I d i ws.length ep ok ov ∧ h.DictAt (strKind prog w) d ws ep ∧ DP h (ws.drop i) rest ∧ ps = pairs .str rest
theorem AIter.items {prog : Program} {w : World} {A : Around} (hh : A.handled = none) {I d : Addr} (hne : d ≠ I) {es : List Expr} {k : _} {p : Pos} : AIter prog w A I (.Tuple es k p) [I, d] (IJ prog w I d) where
  frame := fun ps h h' ⟨i, ep, ok, ov, ws, rest, h1, h2, h3, h4⟩ kt hk => ⟨i, ep, ok, ov, ws, rest, hk I (by simp) _ h1, h2.at' fun o e => hk d (by simp) o e, h3.mono kt, h4⟩
  next := by
    rintro p ps s Q E ⟨i, ep, ok, ov, ws, rest, h1, h2, h3, h4⟩ hQ
    cases rest with
    | nil => cases h4
    | cons kv rest =>
      cases h4
      obtain ⟨kk, pv⟩ := kv
      generalize hd : ws.drop i = ds at h3
      cases h3 with
      | @cons _ v _ ws' _ e r =>
        have hx : ws[i]? = some (kk, v) := by
          have : (ws.drop i)[0]? = some (kk, v) := by rw [hd]; rfl
          simpa using this
        have hd' : ws.drop (i + 1) = ws' := by
          have : (ws.drop i).drop 1 = ws' := by rw [hd]; rfl
          simpa [List.drop_drop] using this
        refine wpAny_pyNext_items_item h1 h2 hx fun key h' hkey hout htup hsz hk => ?_
        have hIlt : I < s.heap.objs.size := Heap.lt_size h1
        have hIne : s.heap.objs.size ≠ I := Nat.ne_of_gt hIlt
        refine wpAny_letOwnedTupleGo_items hout fun h'' hit hs => ?_
        have ext : ∀ b o, b ≠ I → s.heap.get? b = some o → h''.get? b = some o := fun b o hb q => hs.extBut b o hb (hk b o hb q)
        have tk : TupKept s.heap h'' := TupKept.but (fun vs => by
          rintro ⟨o, q, hc, _⟩
          rw [h1] at q; cases q; simp at hc) ext
        refine hQ (.ref s.heap.objs.size) h'' s.toks ?_ ⟨i + 1, ep, _, _, ws, rest, hit, h2.at' fun o q => ext d o hne q, by rw [hd']; exact r.mono tk, rfl⟩ ext
        refine .tup (vs := [key, v]) ⟨_, hs.extBut _ _ hIne htup, rfl, _, rfl⟩ (.cons ?_ (.cons (e.mono tk) .nil))
        obtain ⟨t, rfl⟩ := Value.isStrOf_shape hkey
        exact .str _ _
  stop := by
    rintro s Q E ⟨i, ep, ok, ov, ws, rest, h1, h2, h3, h4⟩ hQ
    have hr : rest = [] := by
      cases rest with
      | nil => rfl
      | cons _ _ => cases h4
    subst hr
    have hd : ws.drop i = [] := by
      generalize ws.drop i = ds at h3
      cases h3; rfl
    have hx : ws[i]? = none := by simpa using List.drop_eq_nil_iff.mp hd
    exact wpAny_pyNext_items_end hh h1 h2 hx fun h' he => hQ h' s.toks fun b o hb e => he b o hb e
  self := fun ps s Q E ⟨i, ep, ok, ov, ws, rest, h1, _⟩ hQ => PySem.W.kcp_self h1 hQ
  there := by
    rintro ps h ⟨i, ep, ok, ov, ws, rest, h1, ⟨o, _, h2, _⟩, _⟩ b hb
    simp only [List.mem_cons, List.not_mem_nil, or_false] at hb
    rcases hb with rfl | rfl
    · exact ⟨_, h1⟩
    · exact ⟨o, h2⟩
  mine := by simp
  notup := by
    rintro ps h ⟨i, ep, ok, ov, ws, rest, h1, _⟩ us ⟨o, e, hc, _⟩
    rw [h1] at e; cases e; simp at hc
theorem Iterates.items {es : List Expr} {k : _} {p : Pos} {v d : Addr} {kvs : List (Str × PV)} (ok : C.Ok) (hv : σ v = some (.items d)) (hd : σ d = some (.dict kvs)) : Iterates C (.Tuple es k p) (.ref v) σ [d] (pairs .str kvs) := by
  intro ρ s u R E x hu h
  cases hu
  have hvw : s.heap.IsItemsView v d := (x.sig _ _ hv).2
  obtain ⟨hsm, ws, hm, dp⟩ := (x.sig _ _ hd).2
  obtain ⟨ep, hm'⟩ := hm.dictAt
  have hlt := hm'.lt_size
  refine wpAny_pyIter_items hvw hm' (h _ [s.heap.objs.size, d] (IJ C.S.prog C.S.w s.heap.objs.size d) _ s.toks (fun b o e => Heap.get?_push_of_some _ e) (heap_fresh _) (AIter.items ok.hh (Nat.ne_of_lt hlt))
    ⟨0, ep, .none, .none, ws, kvs, Heap.get?_push_size _ rfl, hm'.push _, dp.mono (.of_ext fun b o e => Heap.get?_push_of_some _ e), rfl⟩ ?_)
  intro b hb
  simp only [List.mem_cons, List.not_mem_nil, or_false] at hb
  rcases hb with rfl | rfl
  · exact .inl (heap_fresh _)
  · exact .inr (.inl (by simp))
end
end SR

set_option maxRecDepth 100000
set_option linter.unusedVariables false
set_option linter.unusedSectionVars false
set_option linter.unusedSimpArgs false
namespace SR
open PySem

section
variable {S : Sx} {sc : Scope} {ro : List Addr} {room : Nat} {g : Gh} {ρ : Loc} {σ : Sig} {X : String → Sig → Prop}
end

/-! pouring one stock into another -/
/-- all counts at least 1 -/
def Pos1 (l : List (Str × Int)) : Prop := ∀ x ∈ l, 1 ≤ x.2
theorem sGet_some_mem {l : List (Str × Int)} {k : Str} {v : Int} (h : sGet l k = some v) : (k, v) ∈ l := by
  induction l with
  | nil => cases h
  | cons x l ih =>
    rw [sGet_cons] at h
    split at h
    · next e => cases h; rw [← e]; exact List.mem_cons_self
    · exact List.mem_cons_of_mem _ (ih h)
theorem sSet_pos {l : List (Str × Int)} {k : Str} {i : Int} (h : Pos1 l) (hi : 1 ≤ i) : Pos1 (sSet l k i) := by
  intro x hx
  unfold sSet at hx
  split at hx
  · obtain ⟨y, hy, rfl⟩ := List.mem_map.mp hx
    split
    · exact hi
    · exact h y hy
  · rcases List.mem_append.mp hx with hx | hx
    · exact h x hx
    · rw [List.mem_singleton.mp hx]; exact hi
theorem sRecv_pos {l : List (Str × Int)} {k : Str} {n : Int} (h : Pos1 l) (hn : 1 ≤ n) : Pos1 (sRecv l k n) := sSet_pos h (by
  cases e : sGet l k with
  | none => simpa using hn
  | some v => have := h _ (sGet_some_mem e); simp only [Option.getD_some] at this ⊢; omega)
/-- shipping -/
def sShip (l : List (Str × Int)) (k : Str) (n : Int) : List (Str × Int) := if (sGet l k).getD 0 - n = 0 then sDel l k else sSet l k ((sGet l k).getD 0 - n)
theorem ship_all {k : Str} {n v : Int} (h0 : v - n = 0) : ∀ {l : List (Str × Int)}, (∀ x ∈ l, 1 ≤ x.2 ∧ (x.1 = k → x.2 = v)) → (l.map fun x => (x.1, x.2 - if x.1 = k then n else 0)).filter (fun x => decide (x.2 > 0)) = sDel l k
  | [], _ => rfl
  | x :: l, h => by
    have ih := ship_all (k := k) (v := v) h0 (l := l) fun y hy => h y (List.mem_cons_of_mem _ hy)
    obtain ⟨h1, h2⟩ := h x List.mem_cons_self
    unfold sDel at ih ⊢
    rw [List.map_cons]
    by_cases e : x.1 = k
    · have hv := h2 e
      rw [List.filter_cons_of_neg (by simp [e]; omega), List.filter_cons_of_neg (by simp [e])]; exact ih
    · rw [List.filter_cons_of_pos (by simp [e]; omega), List.filter_cons_of_pos (by simp [e]), ih]
      simp [e]
theorem ship_some {k : Str} {n v : Int} (h0 : 0 < v - n) : ∀ {l : List (Str × Int)}, (∀ x ∈ l, 1 ≤ x.2 ∧ (x.1 = k → x.2 = v)) → (l.map fun x => (x.1, x.2 - if x.1 = k then n else 0)).filter (fun x => decide (x.2 > 0)) = l.map fun x => if x.1 = k then (x.1, v - n) else x
  | [], _ => rfl
  | x :: l, h => by
    have ih := ship_some (k := k) (v := v) h0 (l := l) fun y hy => h y (List.mem_cons_of_mem _ hy)
    obtain ⟨h1, h2⟩ := h x List.mem_cons_self
    rw [List.map_cons, List.map_cons]
    by_cases e : x.1 = k
    · have hv := h2 e
      rw [List.filter_cons_of_pos (by simp [e]; omega), ih]
      simp [e, hv]
    · rw [List.filter_cons_of_pos (by simp [e]; omega), ih]
      simp [e]
/-- the law's own shipping -/
theorem sShip_eq {l : List (Str × Int)} {k : Str} {n v : Int} (hl : (l.map (·.1)).Nodup) (hp : Pos1 l) (hv : sGet l k = some v) (h2 : n ≤ v) :
    (l.map fun x => (x.1, x.2 - if x.1 = k then n else 0)).filter (fun x => decide (x.2 > 0)) = sShip l k n := by
  have hall : ∀ x ∈ l, 1 ≤ x.2 ∧ (x.1 = k → x.2 = v) := fun x hx => ⟨hp x hx, fun e => by have := sGet_mem hl hx; rw [e, hv] at this; cases this; rfl⟩
  unfold sShip
  rw [hv, Option.getD_some]
  by_cases h0 : v - n = 0
  · rw [if_pos h0]; exact ship_all h0 hall
  · rw [if_neg h0, ship_some (by omega) hall]
    unfold sSet
    rw [if_pos]
    exact List.any_eq_true.mpr ⟨(k, v), sGet_some_mem hv, by simp⟩
theorem sDel_nodup {l : List (Str × Int)} {k : Str} (h : (l.map (·.1)).Nodup) : ((sDel l k).map (·.1)).Nodup := (List.filter_sublist.map _).nodup h
theorem sShip_nodup {l : List (Str × Int)} {k : Str} {n : Int} (h : (l.map (·.1)).Nodup) : ((sShip l k n).map (·.1)).Nodup := by
  unfold sShip; split
  · exact sDel_nodup h
  · exact sSet_nodup h
end SR

set_option maxRecDepth 100000
set_option linter.unusedVariables false
set_option linter.unusedSectionVars false
set_option linter.unusedSimpArgs false
namespace SR
open PySem

/-! dicts from ints -/
section
variable {C : Cx} {ρ : Loc} {σ : Sig} {X : String → Sig → Prop} {Q : PV → Sig → Prop}
theorem Post.idict {s : Shared} {h' : Heap} {t : Nat} {d : Addr} {kvs kvs' : List (Int × PV)} {ws' : List (Int × Value)} {v : Value} {p : PV} (ok : C.Ok) (x : St C ρ σ s) (hd : σ d = some (.idict kvs)) (hro : d ∉ C.ro)
    (hs' : Heap.SameBut d s.heap h') (hm' : h'.DictOf (intKind C.S.prog C.S.w) d ws') (dp' : TupKept s.heap h' → DP h' ws' kvs') (hv : TupKept s.heap h' → VR h' v p) (h : Q p (σ.set d (.idict kvs'))) : Post C ρ σ s Q v { s with heap := h', toks := t } := by
  have ext : ∀ b o, b ≠ d → s.heap.get? b = some o → h'.get? b = some o := fun b o hb e => hs'.extBut b o hb e
  have tk : TupKept s.heap h' := TupKept.but (fun vs => x.not_tup hd vs) ext
  obtain ⟨hsm, _⟩ := (x.sig d _ hd).2
  exact Post.upd (.idict kvs') ok x hd hro ext ⟨hsm, ws', hm', dp' tk⟩ (hv tk) h
/-- d.setdefault(k, v) -/
theorem OpN.isetdefault {d : Addr} {kvs : List (Int × PV)} {k : Int} {p : PV} (ok : C.Ok) (hd : σ d = some (.idict kvs)) (hro : d ∉ C.ro) (hsz : kvs.length ≤ 1000)
    (h1 : ∀ q, dGet kvs k = some q → Q q σ) (h2 : dGet kvs k = none → Q p (σ.set d (.idict (dSet kvs k p)))) : OpN C (.builtin "dict.setdefault") [.ref d, .int k, p] ρ σ Q X := by
  refine ⟨fun s vs x hv => ?_⟩
  obtain ⟨v1, ws, rfl, r1, rs⟩ := hv.cons_inv
  obtain ⟨v2, ws, rfl, r2, rs⟩ := rs.cons_inv
  obtain ⟨v3, ws, rfl, r3, rs⟩ := rs.cons_inv
  obtain rfl := rs.nil_inv
  cases r1; cases r2
  obtain ⟨hsm, ws, hm, dp⟩ := (x.sig _ _ hd).2
  refine call_meetsIn F.slot_dict_setdefault hm.typeIs F.entry_dict_setdefault (F.args_dict_setdefault_3 _ _ _) (kt_meets_setdefault (intKind _ _) d (intKind_is _ _ _ _) hsm v3) ⟨ws, hm, by rw [dp.length]; show _ ≤ 2 ^ 24; omega, fun v hv' => ?_, fun hn h' hm' hs' => ?_⟩
  · rcases dp.get k with ⟨e1, _⟩ | ⟨u, q, e1, e2, r⟩
    · rw [e1] at hv'; cases hv'
    · rw [e1] at hv'; cases hv'; exact .tok x _ r (h1 q e2)
  · rcases dp.get k with ⟨_, e2⟩ | ⟨u, q, e1, _⟩
    · exact Post.idict (t := s.toks + 1) ok x hd hro hs' hm' (fun tk => (dp.mono tk).stored k (r3.mono tk)) (fun tk => r3.mono tk) (h2 e2)
    · rw [e1] at hn; cases hn
theorem OpN.iitems {d : Addr} {kvs : List (Int × PV)} (hd : σ d = some (.idict kvs)) (h : ∀ a, σ a = none → Q (.ref a) (σ.set a (.items d))) : OpN C (.builtin "dict.items") [.ref d] ρ σ Q X := by
  refine ⟨fun s vs x hv => ?_⟩
  obtain ⟨v1, ws, rfl, r1, rs⟩ := hv.cons_inv
  obtain rfl := rs.nil_inv
  cases r1
  obtain ⟨hsm, ws, hm, dp⟩ := (x.sig _ _ hd).2
  refine call_meetsIn F.slot_dict_items hm.typeIs F.entry_dict_items (F.args_dict_items_1 _) (meets_dict_items (intKind _ _) d hsm) ⟨⟨_, hm⟩, ?_⟩
  exact Post.alloc (t := s.toks) (.items d) x (fun b o e => Heap.get?_push_of_some _ e) (heap_fresh _) ⟨_, Heap.get?_push_size _ rfl, rfl, rfl⟩ (h _)
theorem OpN.list_iitems {v d : Addr} {kvs : List (Int × PV)} (ok : C.Ok) (hv : σ v = some (.items d)) (hd : σ d = some (.idict kvs)) (hsz : kvs.length ≤ 1000) (h : ∀ a, σ a = none → Q (.ref a) (σ.set a (.list (pairs .int kvs)))) :
    OpN C (.type "list") [.ref v] ρ σ Q X := by
  refine ⟨fun s vs x hvs => ?_⟩
  obtain ⟨v1, ws, rfl, r1, rs⟩ := hvs.cons_inv
  obtain rfl := rs.nil_inv
  cases r1
  have hvw : s.heap.IsItemsView v d := (x.sig _ _ hv).2
  obtain ⟨hsm, ws, hm, dp⟩ := (x.sig _ _ hd).2
  obtain ⟨ep, hm'⟩ := hm.dictAt
  refine PySem.W.kdx_call (knd := intKind C.S.prog C.S.w) ok.hh hvw hm' (by rw [dp.length]; show _ ≤ 2 ^ 24; omega) fun h' tk acc c as hk hS hl hG hacc => ?_
  have e : acc = (as.map Value.ref).toArray := by rw [← hacc]
  refine Post.alloc (t := tk) (.list (pairs .int kvs)) x hk (heap_fresh _) ⟨as.map Value.ref, ⟨c, by rw [← e]; exact hS⟩, kdx_pairs_rep (h := s.heap) (fun k key h his => ?_) (dp.mono (.of_ext hk)) hl hG⟩ (h _)
  obtain ⟨t, rfl⟩ := Value.isInt_shape his
  exact .int _ _
/-- list(x.items()) of a dict from ints -/
theorem Ev.listIItems {o : Expr} {np apos p2 pos : Pos} (ok : C.Ok) (hk : C.kd (Str.ofString "list") = some .globalImplicit) (hl : Bi C.S "list" (.type "list"))
    (h : Ev C o ρ σ (fun p σ₁ => ∃ d kvs, p = .ref d ∧ σ₁ d = some (.idict kvs) ∧ kvs.length ≤ 1000 ∧ ∀ b, σ₁ b = none → Q (.ref b) (σ₁.set b (.list (pairs .int kvs)))) X)
    (hline : (apos.endLine == p2.line) = true := by rfl) (hbase : attributeBase o (Str.ofString "items") C.env (eval o C.env) = eval o C.env := by rfl) :
    Ev C (.Call (.Name (Str.ofString "list") np) [.Call (.Attribute o (Str.ofString "items") apos) [] [] p2] [] pos) ρ σ Q X := by
  refine Ev.weaken (Ev.callT ok hk hl.g hl.b (Evs.cons (Ev.method ok F.plainAttrs_dict F.slot_dict_items F.type_dict_items (Ev.mono h ?_) rfl (by decide) hline hbase)))
  rintro p σ₁ ⟨d, kvs, rfl, hd, hsz, hq⟩
  refine ⟨IsT.idict hd, Evs.nil (OpN.iitems hd fun a ha => Evs.nil ?_)⟩
  have had := fresh_ne ha hd
  refine OpN.list_iitems ok (Sig.set_self _ _ _) (by rw [Sig.set_ne _ _ had]; exact hd) hsz fun b hb => ⟨σ₁.set b (.list (pairs .int kvs)), Sub.set_both (Sub.set ha), hq b ?_⟩
  have : b ≠ a := fun e => by subst e; rw [Sig.set_self] at hb; cases hb
  rw [Sig.set_ne _ _ this] at hb; exact hb
end
end SR

set_option maxRecDepth 100000
set_option linter.unusedVariables false
set_option linter.unusedSectionVars false
set_option linter.unusedSimpArgs false
namespace SR
open PySem

/-! a heap without some objects -/
def eraseF (h : Heap) : List Addr → Heap
  | [] => h
  | L :: fs => eraseF (h.update L fun o => { o with data := .freed }) fs
theorem erase_one_self (h : Heap) (L : Addr) : (h.update L fun o => { o with data := .freed }).get? L = none := by
  cases e : (h.update L fun o => { o with data := .freed }).get? L with
  | none => rfl
  | some o =>
    obtain ⟨h1, h2⟩ := Heap.get?_some_iff.mp e
    cases h with
    | mk objs =>
      simp only [Heap.update, Array.getElem?_modify, if_true] at h1
      cases q : objs[L]? with
      | none => rw [q] at h1; cases h1
      | some x => rw [q] at h1; cases h1; cases h2
theorem erase_none : ∀ (fs : List Addr) (h : Heap) (b : Addr), h.get? b = none → (eraseF h fs).get? b = none
  | [], _, _, e => e
  | L :: fs, h, b, e => by
    refine erase_none fs _ b ?_
    by_cases q : b = L
    · subst q; exact erase_one_self h b
    · rw [Heap.get?_update_other _ _ (Ne.symm q)]; exact e
theorem erase_mem (fs : List Addr) : ∀ (h : Heap) (b : Addr), b ∈ fs → (eraseF h fs).get? b = none := by
  induction fs with
  | nil => intro h b hm; cases hm
  | cons L fs ih =>
    intro h b hm
    rcases List.mem_cons.mp hm with rfl | hm
    · exact erase_none fs _ b (erase_one_self h b)
    · exact ih _ b hm
theorem erase_other : ∀ (fs : List Addr) (h : Heap) (b : Addr), b ∉ fs → (eraseF h fs).get? b = h.get? b
  | [], _, _, _ => rfl
  | L :: fs, h, b, hm => by
    have h1 : b ≠ L := fun q => hm (q ▸ List.mem_cons_self)
    have h2 : b ∉ fs := fun q => hm (List.mem_cons_of_mem _ q)
    show (eraseF (h.update L _) fs).get? b = _
    rw [erase_other fs _ b h2, Heap.get?_update_other _ _ (Ne.symm h1)]

/-- the exception e, noted once -/
def Trc (s s' : Shared) (e : Addr) (cls : String) : Prop :=
  ∃ oe vs T oT ts, s'.heap.get? e = some oe ∧ oe.cls = .type cls ∧ oe.data = .fields vs ∧ vs[1]? = some (.ref T) ∧ T ≠ e ∧ s'.heap.get? T = some oT ∧ oT.data = .fields ts ∧ ts[3]? = some .none ∧ s.heap.get? e = none ∧ s.heap.get? T = none
def FnExc (S : Sx) (frs : List Env) (ro : List Addr) (σ : Sig) (s : Shared) (X : String → Sig → Prop) (r : Result) (s' : Shared) : Prop :=
  ∃ e cls σ', r = .error (.ref e) ∧ Trc s s' e cls ∧ GSt S frs σ' s' ∧ Stp [] ro (fsOf frs) σ s σ' s' ∧ σ' e = none ∧ X cls σ'
def FnE (S : Sx) (fa : Addr) (ro : List Addr) (room : Nat) (ps : List PV) (σ : Sig) (Q : PV → Sig → Prop) (X : String → Sig → Prop) : Prop :=
  ∀ (A : Around) (frs : List Env) (s : Shared) (vs : List Value), Room A frs room → GSt S frs σ s → VRs s.heap vs ps →
    codeAny (model S.prog S.w) A (.call (.ref fa) ⟨vs, []⟩) (fun r s' => FnPost S frs ro σ s Q r s' ∨ FnExc S frs ro σ s X r s') s
theorem gst_frames {S : Sx} {frs : List Env} {σ : Sig} {s : Shared} {base : Heap} (g : GSt S frs σ s) : ∀ (l : List Env), (∀ env ∈ l, env ∈ frs) → (∀ b ∈ fsOf l, base.get? b = none) → s.heap.FunFrames base l
  | [], _, _ => trivial
  | env :: l, hm, hb => by
    obtain ⟨h1, L, o, h2, h3, h4, es, ep, h5⟩ := g.frames env (hm env List.mem_cons_self)
    refine ⟨h1, ⟨L, o, h2, hb L (List.mem_filterMap.mpr ⟨env, List.mem_cons_self, h2⟩), h4, fun vs q => by rw [h5] at q; cases q⟩, gst_frames g l (fun e he => hm e (List.mem_cons_of_mem _ he)) fun b hb' => hb b ?_⟩
    obtain ⟨e, he, hf⟩ := List.mem_filterMap.mp hb'
    exact List.mem_filterMap.mpr ⟨e, List.mem_cons_of_mem _ he, hf⟩
theorem not_exc {S : Sx} {h : Heap} {a : Addr} {o : AO} {ob : Obj} {vs : Array Value} (x : OR S h a o) (ho : h.get? a = some ob) (hd : ob.data = .fields vs) (hsz : vs.size = 6) : False := by
  cases o with
  | list ps => obtain ⟨us, ⟨n, e⟩, _⟩ := x; rw [ho] at e; cases e; cases hd
  | dict kvs => obtain ⟨_, ws, ⟨ob', es, ep, e, hx, hd', _⟩, _⟩ := x; rw [ho] at e; cases e; rw [hd] at hd'; cases hd'
  | idict kvs => obtain ⟨_, ws, ⟨ob', es, ep, e, hx, hd', _⟩, _⟩ := x; rw [ho] at e; cases e; rw [hd] at hd'; cases hd'
  | range lo hi => obtain ⟨_, _, _, e⟩ := x; unfold IsRange at e; rw [ho] at e; cases e; cases hd; simp at hsz
  | items d => obtain ⟨o, e, _, hd'⟩ := x; rw [ho] at e; cases e; rw [hd] at hd'; cases hd'; simp at hsz
  | vals d => obtain ⟨o, e, _, hd'⟩ := x; rw [ho] at e; cases e; rw [hd] at hd'; cases hd'; simp at hsz
  | keys d => obtain ⟨o, e, _, hd'⟩ := x; rw [ho] at e; cases e; rw [hd] at hd'; cases hd'; simp at hsz
  | tab pos => obtain ⟨ps, e, r⟩ := x; rw [ho] at e; cases e; cases hd; rcases r with rfl | ⟨c, rfl⟩ <;> simp at hsz

/-- after the frames were noted -/
theorem left_gst {S : Sx} {frs : List Env} {l : List Env} {σ : Sig} {s : Shared} {h' : Heap} {e : Addr} {oe : Obj} {vs : Array Value} {cls : Value} {t : Nat} (g : GSt S frs σ s) (hfr : ∀ b, b ∈ fsOf frs → b ∈ fsOf l) (hl : ∀ b ∈ fsOf l, S.base.get? b = none ∧ σ b = none ∧ ∃ o es ep, s.heap.get? b = some o ∧ o.data = .dict es ep)
    (hne : S.base.get? e = none) (hse : σ e = none) (he : s.heap.get? e = some oe) (hd : oe.data = .fields vs) (L : Heap.Left (eraseF s.heap (e :: fsOf l)) l e cls s.heap h') :
    GSt S frs σ { s with heap := h', toks := t } ∧ TupKept s.heap h' ∧ (∀ b o, b ≠ e → s.heap.get? b = some o → ∃ o', h'.get? b = some o' ∧ SameObj (fsOf l) b o o') := by
  obtain ⟨k1, k2, k3, k4⟩ := L
  have keep : ∀ b o, b ≠ e → b ∉ fsOf l → s.heap.get? b = some o → h'.get? b = some o := fun b o h1 h2 hb => k1 b o (by rw [erase_other _ _ _ (by simp [h1, h2])]; exact hb)
  have keepF : ∀ b o, b ∈ fsOf l → s.heap.get? b = some o → ∃ o', h'.get? b = some o' ∧ o'.data = o.data := fun b o h1 hb => by
    obtain ⟨_, _, o₁, es, ep, e1, d1⟩ := hl b h1
    rw [hb] at e1; cases e1
    obtain ⟨sl, q⟩ := k4 b o hb fun us z => by rw [d1] at z; cases z
    exact ⟨_, q, rfl⟩
  have tk : TupKept s.heap h' := by
    rintro b us ⟨o, ho, hc, n, hd'⟩
    refine ⟨o, keep b o (fun q => ?_) (fun q => ?_) ho, hc, n, hd'⟩
    · subst q; rw [he] at ho; cases ho; rw [hd] at hd'; cases hd'
    · obtain ⟨_, _, o₁, es, ep, e1, d1⟩ := hl b q
      rw [ho] at e1; cases e1; rw [d1] at hd'; cases hd'
  refine ⟨⟨fun b o hb => keep b o (fun q => by rw [q, hne] at hb; cases hb) (fun q => by rw [(hl b q).1] at hb; cases hb) (g.base b o hb), g.os, g.gens, fun a o ha => ⟨(g.sig a o ha).1, (g.sig a o ha).2.at tk fun ob q => keep a ob (fun z => by rw [z, hse] at ha; cases ha) (fun z => by rw [(hl a z).2.1] at ha; cases ha) q⟩, fun env hm => ?_, g.offF⟩, tk, fun b o hb ho => ?_⟩
  · obtain ⟨h1, L, o, h2, h3, h4, es, ep, h5⟩ := g.frames env hm
    obtain ⟨o', q, d⟩ := keepF L o (hfr L (List.mem_filterMap.mpr ⟨env, hm, h2⟩)) h4
    exact ⟨h1, L, o', h2, h3, q, es, ep, d.trans h5⟩
  · by_cases hf : b ∈ fsOf l
    · obtain ⟨o', q, d⟩ := keepF b o hf ho
      exact ⟨o', q, .inr ⟨hf, d⟩⟩
    · exact ⟨o, keep b o hb hf ho, .refl _ _ _⟩
theorem left_trc {l : List Env} {s₀ s : Shared} {h' : Heap} {e : Addr} {cls : String} {t : Nat} (L : Heap.Left (eraseF s.heap (e :: fsOf l)) l e (.type cls) s.heap h') (hne : s₀.heap.get? e = none)
    (hl : ∀ b ∈ fsOf l, ∃ o es ep, s.heap.get? b = some o ∧ o.data = .dict es ep) (hlive : ∀ b o, s₀.heap.get? b = some o → ∃ o', s.heap.get? b = some o') : Trc s₀ { s with heap := h', toks := t } e cls := by
  obtain ⟨k1, k2, k3, k4⟩ := L
  obtain ⟨oe, vs, T, oT, ts, a1, a2, a3, a4, a5, a6, a7, a8, a9⟩ := k3
  refine ⟨oe, vs, T, oT, ts, a1, a2, a3, a4, a6, a7, a8, a9, hne, ?_⟩
  have hTf : T ∉ fsOf l := fun q => by
    obtain ⟨o, es, ep, e1, d1⟩ := hl T q
    obtain ⟨sl, z⟩ := k4 T o e1 fun us z => by rw [d1] at z; cases z
    rw [a7] at z; cases z; rw [d1] at a8; cases a8
  rw [erase_other _ _ _ (by simp [a6, hTf])] at a5
  cases q : s₀.heap.get? T with
  | none => rfl
  | some o => obtain ⟨o', z⟩ := hlive T o q; rw [a5] at z; cases z

/-- the end of a frame by an exception -/
theorem frame_leaves {S : Sx} {fd : FuncData} {ro : List Addr} {room : Nat} {A : Around} {frs : List Env} {fa L : Addr} {σ : Sig} {s₁ s₂ : Shared} {e : Value} {X : String → Sig → Prop} {R : Value → Shared → Prop}
    (hk : fd.scope.kind = .function) (hA : (A.deeper (calleeEnv fd L fa)).frames = some (calleeEnv fd L fa :: frs)) (hL : S.base.get? L = none) (hb₁ : ∀ b o, S.base.get? b = some o → s₁.heap.get? b = some o)
    (hx : Exc (calleeCx S fd ro room A frs L fa) σ s₁ X e s₂)
    (h : ∀ ea cls σ' s', e = .ref ea → NewE s₁ s₂ ea cls → σ' ea = none → Step (calleeCx S fd ro room A frs L fa) σ s₁ σ' s₂ → GSt S (calleeEnv fd L fa :: frs) σ' s' →
      (∀ b o, b ≠ ea → s₂.heap.get? b = some o → ∃ o', s'.heap.get? b = some o' ∧ SameObj (fsOf (calleeEnv fd L fa :: frs)) b o o') → (∀ s₀ : Shared, s₀.heap.get? ea = none → (∀ b o, s₀.heap.get? b = some o → ∃ o', s₂.heap.get? b = some o') → Trc s₀ s' ea cls) → X cls σ' → R e s') :
    wpAny (model S.prog S.w) (A.deeper (calleeEnv fd L fa)) (leaving (calleeEnv fd L fa) e) (fun _ s'' => R e s'') (fun e' s'' => R e' s'') s₂ := by
  obtain ⟨ea, cls, σ', ρ', rfl, ne, x, k, hX⟩ := hx
  obtain ⟨ob, tp, ho, hc, hd⟩ := ne.there
  have hσ : σ' ea = none := by
    cases q : σ' ea with
    | none => rfl
    | some o => exact (not_exc (x.sig ea o q).2 ho hd rfl).elim
  have hbase : S.base.get? ea = none := by
    cases q : S.base.get? ea with
    | none => rfl
    | some o => have := hb₁ ea o q; rw [ne.new] at this; cases this
  have hl : ∀ b ∈ fsOf (calleeEnv fd L fa :: frs), S.base.get? b = none ∧ σ' b = none ∧ ∃ o es ep, s₂.heap.get? b = some o ∧ o.data = .dict es ep := fun b hb => by
    obtain ⟨o, es, ep, h1, h2⟩ := x.frame_data hb
    refine ⟨?_, ?_, o, es, ep, h1, h2⟩
    · obtain ⟨env, hm, hf⟩ := List.mem_filterMap.mp hb
      obtain ⟨_, L', _, h2, h3, _⟩ := x.frames env hm
      rw [hf] at h2; cases h2; exact h3
    · cases q : σ' b with
      | none => rfl
      | some ao => exact (x.offF b ao q hb).elim
  refine wpAny_leaving_first (base := eraseF s₂.heap (ea :: fsOf (calleeEnv fd L fa :: frs))) (L := L) (oe := ob) hA ?_ rfl ho ?_ ?_ hd rfl fun h' hLf => ?_
  · exact gst_frames x.toGSt _ (fun _ h => h) fun b hb => erase_mem _ _ _ (List.mem_cons_of_mem _ hb)
  · intro b o hb
    by_cases hm : b ∈ ea :: fsOf (calleeEnv fd L fa :: frs)
    · rw [erase_mem _ _ _ hm] at hb; cases hb
    · rw [erase_other _ _ _ hm] at hb; exact hb
  · exact erase_mem _ _ _ List.mem_cons_self
  · rw [hc] at hLf
    obtain ⟨g', tk, kp⟩ := left_gst (t := s₂.toks) x.toGSt (fun _ h => h) hl hbase hσ ho hd hLf
    exact h ea cls σ' _ rfl ne hσ k g' kp (fun s₀ h0 hlive => left_trc hLf h0 (fun b hb => (hl b hb).2.2) hlive) hX
theorem FnE.body {σ : Sig} {S : Sx} {f : Str} {fa : Addr} {fd : FuncData} {body : List Stmt} {xs : List Str} {ro : List Addr} {room : Nat} {ps : List PV} {Q : PV → Sig → Prop} {X : String → Sig → Prop} (oS : S.Ok) (hf : IsFn S f fa fd) (hb : fd.body = .stmts body) (hcl : fd.closure = [])
    (hg : fd.globals = mainGlobals) (hbt : fd.builtins = builtinsNs) (hlen : ps.length = xs.length) (hbind : ∀ vs : List Value, vs.length = xs.length → bindArgs fd ⟨vs, []⟩ = pure (xs.zip vs))
    (hx : (xs.all fun x => fd.scope.names.lookup x == some .local || fd.scope.names.lookup x == some .cell) = true)
    (hnd : ((cellsFrom 0 fd.scope.names []).map (·.1)).Nodup)
    (hk : fd.scope.kind = .function) (hco : fd.scope.isCoroutine = false) (hgen : fd.scope.isGenerator = false)
    (h : ∀ A frs L, (calleeCx S fd ro room A frs L fa).Ok → Exs (calleeCx S fd ro room A frs L fa) body (Loc.nil.bind (xs.zip ps)) σ (fun fl _ σ' => Q (match fl with | .ret p => p | _ => .none) σ') X) :
    FnE S fa ro (room + 1) ps σ Q X := by
  intro A frs s vs rm g hv
  obtain ⟨o, ho, hdat⟩ := hf.there
  have hvl : vs.length = xs.length := hv.length.trans hlen
  refine codeAny_call_function (by have := rm.depth; omega) (g.base _ _ ho) hdat hco hgen hb (hf.code.keeps g.base) ?_
  rw [hbind vs hvl]
  refine wpAny_pure ?_
  rw [hcl]
  have hkinds : ∀ n, ∀ x ∈ xs.zip vs, fd.scope.names.lookup x.1 = some .local ∨ (fd.scope.names.lookup x.1 = some .cell ∧ ((cellsFrom n fd.scope.names []).lookup x.1).isSome = true) := fun n x hxm => by
    have h1 := List.all_eq_true.mp hx x.1 (List.of_mem_zip hxm).1
    rcases Bool.or_eq_true_iff.mp h1 with q | q
    · exact .inl (by simpa using q)
    · have q' : fd.scope.names.lookup x.1 = some .cell := by simpa using q
      exact .inr ⟨q', PySem.W.cellsFrom_some _ _ _ (.inl q')⟩
  refine wpAny_newFunctionEnv_cells hk (hkinds _) fun env he s₁ ic => ?_
  have he' : env = calleeEnv fd s.heap.objs.size fa := he
  refine ⟨(oS.nolimit.keeps g.base).keeps ic.toInCall.keep, codeAny_func ?_⟩
  have hL : env.locals = s.heap.objs.size := by rw [he]; rfl
  have hcells : env.cells = cellsFrom (s.heap.objs.size + 1) fd.scope.names [] := by rw [he]; rfl
  obtain ⟨h₁, tk, hs₁, keep⟩ := ic.done
  subst he'
  have g₁ : GSt S frs σ s₁ := by rw [hs₁]; exact g.ext keep
  have freshL : s.heap.get? s.heap.objs.size = Option.none := by
    cases q : s.heap.get? s.heap.objs.size with
    | none => rfl
    | some o' => exact absurd (Heap.lt_size q) (Nat.lt_irrefl _)
  have freshC : ∀ c ∈ (calleeEnv fd s.heap.objs.size fa).cells.map (·.2), s.heap.get? c = Option.none ∧ s.heap.objs.size < c := fun c hc => by
    obtain ⟨⟨n, c'⟩, hm, rfl⟩ := List.mem_map.mp hc
    have := ic.above n c' hm
    rw [hL] at this
    refine ⟨?_, this⟩
    cases q : s.heap.get? c' with
    | none => rfl
    | some o' => exact absurd (Nat.lt_trans (Heap.lt_size q) this) (Nat.lt_irrefl _)
  have freshO : ∀ a ∈ (calleeCx S fd ro room A frs s.heap.objs.size fa).own, s.heap.get? a = Option.none := fun a ha => by
    rcases List.mem_cons.mp ha with rfl | ha
    · exact freshL
    · exact (freshC a ha).1
  have ok : (calleeCx S fd ro room A frs s.heap.objs.size fa).Ok := by
    refine ⟨oS, rm.hh, by show A.depth + 1 + room < _; have := rm.depth; omega, by show A.units + 3 + 8 * room + 8 < _; have := rm.units; omega, hk, hg, hbt, fun x k e => e, List.mem_cons_self, fun x c e _ => ⟨List.mem_cons_of_mem _ (List.mem_map.mpr ⟨(x, c), mem_of_lookup e, rfl⟩), fun q => ?_⟩,
      fun x y c h1 h2 => name_of_addr ic.apart (mem_of_lookup h1) (mem_of_lookup h2), fun a ha => g.fresh_base (freshO a ha), by show (A.frames.map (_ :: ·)) = _; rw [rm.frames]; rfl⟩
    have := ic.above x c (mem_of_lookup e)
    exact absurd (q ▸ this) (Nat.lt_irrefl _)
  have st : St (calleeCx S fd ro room A frs s.heap.objs.size fa) (Loc.nil.bind (xs.zip ps)) σ s₁ := by
    have tk : TupKept s.heap s₁.heap := .of_ext ic.toInCall.keep
    obtain ⟨oL, esL, epL, eL, dL, _⟩ := id ic.toInCall.ns
    refine ⟨⟨g₁.base, g₁.os, g₁.gens, g₁.sig, fun env' hm => ?_, fun a ao e => ?_⟩, ⟨⟨_, ic.toInCall.ns, fun y p e => ?_⟩, fun y c h1 => ⟨_, ic.cell y c h1⟩, fun a ha => ?_⟩, fun a ao e ha => ?_⟩
    · rcases List.mem_cons.mp hm with rfl | hm
      · exact ⟨by show fd.scope.kind ≠ _; rw [hk]; decide, s.heap.objs.size, oL, rfl, g.fresh_base freshL, eL, esL, epL, dL⟩
      · exact g₁.frames env' hm
    · intro hm
      rcases List.mem_cons.mp hm with q | hm
      · obtain ⟨ob, q', _⟩ := (g.sig a ao e).2.there; rw [q, freshL] at q'; cases q'
      · exact g.offF a ao e hm
    · rcases bind_rep (kindOf := (calleeEnv fd s.heap.objs.size fa).kindOf) xs vs ps (fun _ => Option.none) (fun _ => Option.none) Loc.nil (hv.mono tk) (fun y p e => nomatch e) y p e with ⟨h1, v, h2, h3⟩ | ⟨h1, v, h2, h3⟩
      · exact .inl ⟨h1, v, h2, h3⟩
      · rcases bind_dom e with hm | hm
        · have hkx := List.all_eq_true.mp hx y hm
          rcases Bool.or_eq_true_iff.mp hkx with q | q
          · have q' : fd.scope.names.lookup y = some .local := by simpa using q
            exact (h1 q').elim
          · have q' : fd.scope.names.lookup y = some .cell := by simpa using q
            obtain ⟨c, hc⟩ := Option.isSome_iff_exists.mp (PySem.W.cellsFrom_some fd.scope.names (s.heap.objs.size + 1) [] (.inl q'))
            have := ic.cell y c hc
            rw [h2] at this
            exact .inr ⟨.inl q', c, v, hc, (ok.cells y c hc q').2, this, h3⟩
        · cases hm
    · rcases List.mem_cons.mp ha with rfl | ha
      · exact ⟨oL, eL, .inl ⟨esL, epL, dL⟩⟩
      · obtain ⟨⟨n, c⟩, hm, rfl⟩ := List.mem_map.mp ha
        have hnd' : ((calleeEnv fd s.heap.objs.size fa).cells.map (·.1)).Nodup := by
          rw [hcells]; exact PyProof.Rows.cellsFrom_names fd.scope.names 0 (s.heap.objs.size + 1) [] [] rfl ▸ hnd
        obtain ⟨oc, ec, dc⟩ := ic.cell n c (PyProof.Rows.lookup_of_mem_nodup hnd' hm)
        exact ⟨oc, ec, .inr ⟨_, dc⟩⟩
    · obtain ⟨ob, q', _⟩ := (g.sig a ao e).2.there; rw [freshO a ha] at q'; cases q'
  refine wpAny_mono ((h A frs s.heap.objs.size ok).run s₁ st) (fun fl s₂ ⟨fl', ρ', σ', h1, h2, h3, h4⟩ => .inl ?_) fun e s₂ hx => ?_
  · have val : ∃ p, VR s₂.heap (match fl with | .ret v => v | _ => .none) p ∧ Q p σ' := by
      cases fl' with
      | ret p => cases fl with
        | ret v => exact ⟨p, h1, h4⟩
        | _ => exact h1.elim
      | next => cases fl with
        | next => exact ⟨.none, .none, h4⟩
        | _ => exact h1.elim
      | brk => cases fl with
        | brk => exact ⟨.none, .none, h4⟩
        | _ => exact h1.elim
      | cont => cases fl with
        | cont => exact ⟨.none, .none, h4⟩
        | _ => exact h1.elim
    obtain ⟨p, hp, hq⟩ := val
    refine ⟨_, p, σ', rfl, hp, ⟨h2.base, h2.os, h2.gens, h2.sig, fun env' hm => h2.frames env' (List.mem_cons_of_mem _ hm), fun a ao e hm => h2.offF a ao e ?_⟩, ⟨fun a ob e nd => ?_, fun a ob e => ?_, fun a hs => ?_⟩, hq⟩
    · obtain ⟨env', he', hf'⟩ := List.mem_filterMap.mp hm
      exact List.mem_filterMap.mpr ⟨env', List.mem_cons_of_mem _ he', hf'⟩
    · obtain ⟨o', e', q⟩ := h3.kept a ob (ic.toInCall.keep a ob e) (by
        rintro (hm | hm)
        · rw [freshO a hm] at e; cases e
        · exact nd (.inr hm))
      refine ⟨o', e', q.imp id fun ⟨hm, hd⟩ => ⟨?_, hd⟩⟩
      rcases List.mem_cons.mp hm with q | hm
      · rw [q, freshL] at e; cases e
      · exact hm
    · exact h3.live a ob (ic.toInCall.keep a ob e)
    · rcases h3.dom a hs with q | q
      · exact .inl q
      · cases e : s.heap.get? a with
        | none => exact .inr rfl
        | some ob => rw [ic.toInCall.keep a ob e] at q; cases q
  · have hlive : ∀ b o, s.heap.get? b = some o → ∃ o', s₂.heap.get? b = some o' := fun b o e => by
      obtain ⟨_, _, _, _, _, _, _, k, _⟩ := hx
      exact k.live b o (ic.toInCall.keep b o e)
    refine frame_leaves (fa := fa) (R := fun e' s'' => FnPost S frs ro σ s Q (.error e') s'' ∨ FnExc S frs ro σ s X (.error e') s'') hk ok.frames (g.fresh_base freshL) st.base hx fun ea cls σ' s' hea ne hσ k g' kp htr hX => Or.inr ?_
    subst hea
    have hse : s.heap.get? ea = Option.none := by
      cases q : s.heap.get? ea with
      | none => rfl
      | some o => have := ic.toInCall.keep ea o q; rw [ne.new] at this; cases this
    refine ⟨ea, cls, σ', rfl, htr s hse hlive, ⟨g'.base, g'.os, g'.gens, g'.sig, fun env' hm => g'.frames env' (List.mem_cons_of_mem _ hm), fun a ao e hm => g'.offF a ao e ?_⟩, ⟨fun a ob e nd => ?_, fun a ob e => ?_, fun a hs => ?_⟩, hσ, hX⟩
    · obtain ⟨env', he', hf'⟩ := List.mem_filterMap.mp hm
      exact List.mem_filterMap.mpr ⟨env', List.mem_cons_of_mem _ he', hf'⟩
    · obtain ⟨o', e', q⟩ := k.kept a ob (ic.toInCall.keep a ob e) (by
        rintro (hm | hm)
        · rw [freshO a hm] at e; cases e
        · exact nd (.inr hm))
      obtain ⟨o₂, e₂, q₂⟩ := kp a o' (fun z => by rw [z, hse] at e; cases e) e'
      refine ⟨o₂, e₂, (q.trans q₂).imp id fun ⟨hm, hd⟩ => ⟨?_, hd⟩⟩
      rcases List.mem_cons.mp hm with z | hm
      · rw [z, freshL] at e; cases e
      · exact hm
    · obtain ⟨o', e'⟩ := k.live a ob (ic.toInCall.keep a ob e)
      obtain ⟨o₂, e₂, _⟩ := kp a o' (fun z => by rw [z, hse] at e; cases e) e'
      exact ⟨o₂, e₂⟩
    · rcases k.dom a hs with q | q
      · exact .inl q
      · cases e : s.heap.get? a with
        | none => exact .inr rfl
        | some ob => rw [ic.toInCall.keep a ob e] at q; cases q
theorem FnE.at {S : Sx} {σ : Sig} {Q : PV → Sig → Prop} {X : String → Sig → Prop} {ro : List Addr} {f : Str} {fa : Addr} {body : List Stmt} {sc : Scope} {xs : List Str} {room : Nat} {ps : List PV} (oS : S.Ok) (hf : FnAt S f fa body sc xs) (so : ScOk sc xs) (hlen : ps.length = xs.length)
    (h : ∀ g, (mkC S sc ro room g).Ok → (∀ x, kdOf sc x = some .cell → (g.env.cells.lookup x).isSome) → Exs (mkC S sc ro room g) body (Loc.nil.bind (xs.zip ps)) σ (fun fl _ σ' => Q (retv fl) σ') X) :
    FnE S fa ro (room + 1) ps σ Q X := by
  obtain ⟨fd, hI, hb, rfl, hcl, hg, hbt, hbind⟩ := hf
  refine FnE.body oS hI hb hcl hg hbt hlen hbind so.params so.cells so.kind so.co so.gen fun A frs L ok => ?_
  have := h ⟨A.deeper (calleeEnv fd L fa), calleeEnv fd L fa, (calleeCx S fd ro room A frs L fa).own, calleeEnv fd L fa :: frs⟩ ok fun x hx => PySem.W.cellsFrom_some _ _ _ (.inl hx)
  refine ⟨TrS.mono this.run fun fl ρ' σ' hq => ?_⟩
  cases fl <;> exact hq
end SR

set_option maxRecDepth 100000
set_option linter.unusedVariables false
set_option linter.unusedSectionVars false
set_option linter.unusedSimpArgs false
namespace SR
open PySem

/-! d.popitem() -/
section
variable {prog : Program} {w : World} {K : Type} [DecidableEq K] {knd : KeyKind prog w K}
theorem pairs_last {es : List DictEntry} {kvs : List (K × Value)} (h : Pairs knd es kvs) : ∀ {kv : K × Value} {ini : List (K × Value)}, kvs = ini ++ [kv] → ∃ e, es.getLast? = some e ∧ knd.is kv.1 e.key = true ∧ e.val = kv.2 ∧ Pairs knd es.dropLast ini := by
  induction h with
  | nil => intro kv ini e; cases ini <;> cases e
  | @cons e kv' es kvs h1 h2 h3 ih =>
    intro kv ini q
    cases ini with
    | nil =>
      obtain ⟨rfl, rfl⟩ := List.cons.inj q
      cases h3
      exact ⟨e, rfl, h1, h2, .nil⟩
    | cons a ini =>
      obtain ⟨rfl, q'⟩ := List.cons.inj q
      obtain ⟨e', a1, a2, a3, a4⟩ := ih q'
      have hne : es ≠ [] := fun z => by subst z; cases a1
      refine ⟨e', ?_, a2, a3, ?_⟩
      · cases es with
        | nil => cases hne rfl
        | cons x r => exact a1
      · cases es with
        | nil => cases hne rfl
        | cons x r => exact .cons h1 h2 a4
theorem meets_popitem (d : Addr) (hd : (d == sysModules) = false) :
    MeetsIn prog w (Builtin.«dict.popitem» ⟨[.ref d], []⟩) (fun A R s => ∃ kvs, s.heap.DictOf knd d kvs ∧ kvs.length ≤ sizeLine ∧
      (kvs = [] → A.handled = none ∧ ∀ h' tk e, Heap.NewExc s.heap h' e "KeyError" → R (.error (.ref e)) { s with heap := h', toks := tk }) ∧
      ∀ ini kv, kvs = ini ++ [kv] → ∀ h' key T, knd.is kv.1 key = true → h'.DictOf knd d ini → (∀ b o, b ≠ d → s.heap.get? b = some o → h'.get? b = some o) → s.heap.get? T = none → h'.IsTuple T #[key, kv.2] → R (.ok (.ret (.ref T))) { s with heap := h' }) :=
  .of_wp fun A R s ⟨kvs, hm, hsz, h1, h2⟩ => by
    obtain ⟨o, es, ep, ho, hc, hdat, hk, hp, hn⟩ := id hm
    have hes : es.size ≤ sizeLine := by have e1 := hp.length; have e2 : es.toList.length = es.size := by simp
                                        omega
    unfold Builtin.«dict.popitem»
    refine wpAny_bind ?_
    unfold Builtin.Dict.noArgs
    refine wpAny_bind (wpAny_notOrdered_dict hm.typeIs ?_)
    show wpAny _ _ (pure d) _ _ s
    refine wpAny_pure ?_
    unfold Builtin.Dict.showsAll
    rw [if_neg (by rw [hd]; exact Bool.false_ne_true)]
    refine wpAny_bind (wpAny_pure ?_)
    refine wpAny_bind (wpAny_dictEntries ho hdat ?_)
    rcases List.eq_nil_or_concat kvs with hnil | ⟨ini, kv, hkv⟩
    · subst hnil
      have : es = #[] := by
        have := hp.length
        have e2 : es.toList.length = es.size := by simp
        exact Array.eq_empty_of_size_eq_zero (by omega)
      subst this
      obtain ⟨hh, h1⟩ := h1 rfl
      refine wpAny_bind (wpAny_rule ?_)
      exact wpAny_raiseErrorWords plainExc_KeyError hh fun h' tk e hx => h1 h' tk e hx
    · have hkv' : kvs = ini ++ [kv] := by simpa using hkv
      obtain ⟨e, a1, a2, a3, a4⟩ := pairs_last hp hkv'
      have hb : es.back? = some e := by rw [← a1]; simp
      rw [hb]
      refine wpAny_bind (wpAny_updateDictKeys (hz := hes) (hf := by show es.pop.size ≤ es.size + 1; rw [Array.size_pop]; omega) ho hdat ?_)
      refine wpAny_bind (wpAny_newTuple (wpAny_pure ⟨_, rfl, ?_⟩))
      have hup : (s.heap.update d (Obj.mapDictKeys (·.pop))).DictOf knd d ini := by
        refine ⟨_, _, ep + 1, Heap.get?_update_self _ ho (Obj.isFreed_of_dict (Obj.data_mapDictKeys hdat _)), hc.mapDictKeys _, Obj.data_mapDictKeys hdat _, fun x hx => hk x ?_, ?_, ?_⟩
        · have : x ∈ es.toList.dropLast := by rw [← Array.toList_pop]; exact Array.mem_toList_iff.mpr hx
          exact Array.mem_toList_iff.mp (List.dropLast_subset _ this)
        · simpa using a4
        · rw [hkv', List.map_append] at hn
          exact (List.nodup_append.mp hn).1
      refine h2 ini kv hkv' _ e.key _ a2 (hup.push _) (fun b o' hb' q => Heap.get?_push_of_some _ (by rw [Heap.get?_update_other _ _ (Ne.symm hb')]; exact q)) ?_ ⟨_, Heap.get?_push_size _ rfl, rfl, 0, ?_⟩
      · rw [Heap.size_after_update]; exact heap_fresh _
      · rw [← a3]
end

section
variable {C : Cx} {ρ : Loc} {σ : Sig} {X : String → Sig → Prop} {Q : PV → Sig → Prop}
/-- a new exception -/
theorem Exc.made {s : Shared} {h' : Heap} {t : Nat} {e : Addr} {cls : String} (x : St C ρ σ s) (hx : Heap.NewExc s.heap h' e cls) (h : X cls σ) : Exc C σ s X (.ref e) { s with heap := h', toks := t } := by
  obtain ⟨ob, tp, h1, h2, h3⟩ := hx.there
  exact ⟨e, cls, σ, ρ, rfl, ⟨hx.new, ob, tp, h1, h2, h3⟩, x.ext hx.keeps, Stp.ext hx.keeps, h⟩
/-- d.popitem() -/
theorem OpN.popitem {d : Addr} {kvs : List (Str × PV)} (ok : C.Ok) (hd : σ d = some (.dict kvs)) (hro : d ∉ C.ro) (hsz : kvs.length ≤ 1000)
    (h0 : kvs = [] → X "KeyError" σ) (h1 : ∀ ini k p, kvs = ini ++ [(k, p)] → Q (.tup [.str k, p]) (σ.set d (.dict ini))) : OpN C (.builtin "dict.popitem") [.ref d] ρ σ Q X := by
  refine ⟨fun s vs x hv => ?_⟩
  obtain ⟨v1, ws, rfl, r1, rs⟩ := hv.cons_inv
  obtain rfl := rs.nil_inv
  cases r1
  obtain ⟨hsm, ws, hm, dp⟩ := (x.sig _ _ hd).2
  refine call_meetsIn F.slot_dict_popitem hm.typeIs F.entry_dict_popitem (F.args_dict_popitem_1 _) (meets_popitem (knd := strKind _ _) d hsm) ⟨ws, hm, by rw [dp.length]; show _ ≤ 2 ^ 24; omega, fun hn => ⟨ok.hh, fun h' tk e hx => ?_⟩, fun ini kv hkv h' key T hkey hm' ext hT htup => ?_⟩
  · subst hn
    have : kvs = [] := by cases dp; rfl
    exact Exc.made x hx (h0 this)
  · have tk : TupKept s.heap h' := TupKept.but (fun vs => x.not_tup hd vs) ext
    have hsplit : ∃ ini' k' p', kvs = ini' ++ [(k', p')] ∧ DP s.heap ini ini' ∧ kv.1 = k' ∧ VR s.heap kv.2 p' := by
      clear hm hm'
      subst hkv
      clear h0 h1 hd hsz
      induction ini generalizing kvs with
      | nil =>
        obtain ⟨k, v⟩ := kv
        cases dp with
        | cons e r => cases r; exact ⟨[], _, _, rfl, .nil, rfl, e⟩
      | cons a ini ih =>
        obtain ⟨k, v⟩ := a
        cases dp with
        | cons e r =>
          obtain ⟨ini', k', p', rfl, a1, a2, a3⟩ := ih r
          exact ⟨_ :: ini', k', p', rfl, .cons e a1, a2, a3⟩
    obtain ⟨ini', k', p', rfl, dp', rfl, r⟩ := hsplit
    obtain ⟨t, rfl⟩ := Value.isStrOf_shape hkey
    have q := Post.upd (t := s.toks) (Q := Q) (.dict ini') ok x hd hro ext ⟨hsm, ini, hm', dp'.mono tk⟩ (v := .ref T) (p := .tup [.str kv.1, p']) (.tup (vs := [_, _]) htup (.cons (.str _ _) (.cons (r.mono tk) .nil))) (h1 ini' kv.1 p' rfl)
    exact q
end
end SR

set_option maxRecDepth 100000
set_option linter.unusedVariables false
set_option linter.unusedSectionVars false
set_option linter.unusedSimpArgs false
namespace SR
open PySem

section
variable {C : Cx} {ρ : Loc} {σ : Sig} {X : String → Sig → Prop} {Q : Fl → Loc → Sig → Prop}
end

section
variable {S : Sx} {σ : Sig} {Q : PV → Sig → Prop} {ro : List Addr}
/-- as Fn.at, with the frame's own place among the frames -/
theorem Fn.atF {f : Str} {fa : Addr} {body : List Stmt} {sc : Scope} {xs : List Str} {room : Nat} {ps : List PV} (oS : S.Ok) (hf : FnAt S f fa body sc xs) (so : ScOk sc xs) (hlen : ps.length = xs.length)
    (h : ∀ g, (mkC S sc ro room g).Ok → (∀ x, kdOf sc x = some .cell → (g.env.cells.lookup x).isSome) → (∃ outer, g.frs = g.env :: outer ∧ g.env.frame = some g.env.locals) → Exs (mkC S sc ro room g) body (Loc.nil.bind (xs.zip ps)) σ (fun fl _ σ' => Q (retv fl) σ') noX) :
    Fn S fa ro (room + 1) ps σ Q := by
  obtain ⟨fd, hI, hb, rfl, hcl, hg, hbt, hbind⟩ := hf
  refine Fn.body oS hI hb hcl hg hbt hlen hbind so.params so.cells so.kind so.co so.gen fun A frs L ok => ?_
  have := h ⟨A.deeper (calleeEnv fd L fa), calleeEnv fd L fa, (calleeCx S fd ro room A frs L fa).own, calleeEnv fd L fa :: frs⟩ ok (fun x hx => PySem.W.cellsFrom_some _ _ _ (.inl hx)) ⟨frs, rfl, rfl⟩
  refine ⟨TrS.mono this.run fun fl ρ' σ' hq => ?_⟩
  cases fl <;> exact hq
end

/-- the exception is noted in one more frame -/
theorem note_next {M : Model} {A : Around} {E : Value → Shared → Prop} {s : Shared} {base : Heap} {env : Env} {outer : List Env} {L e : Addr} {cls : Value} {Q : Unit → Shared → Prop}
    (hfr : A.frames = some (env :: outer)) (hl : s.heap.FunFrames base (env :: outer)) (hf : env.frame = some L) (ht : s.heap.Traced base e cls) (hkb : base.StaysIn s.heap) (hen : base.get? e = none)
    (h : ∀ h', Heap.Left base (env :: outer) e cls s.heap h' → Q () { s with heap := h' }) : wpAny M A (noteFrame (.ref e) env) (fun _ s' => wpAny M A (setFlight (.ref e) none) Q E s') E s := by
  obtain ⟨oe, vs, T, oT, ts, he, hcls, hd, h1, hnT, hTe, hT, hdT, h3⟩ := ht
  subst hcls
  unfold noteFrame
  simp only [hf]
  refine wpAny_bind (wpAny_field he hd h1 ?_)
  rw [if_pos (show (Value.ref T != Value.none) = true from by simp)]
  refine wpAny_bind (wpAny_field hT hdT h3 ?_)
  rw [if_neg (show ¬ ((Value.none == rawInt L) = true) from by simp [rawInt])]
  refine wpAny_bind (wpAny_setField hT hdT (Array.getElem?_eq_some_iff.mp h3).1 ?_)
  have other : ∀ b, b ≠ T → (s.heap.update T (Obj.mapFields (·.setIfInBounds 3 Value.none))).get? b = s.heap.get? b := fun b hb => Heap.get?_update_other _ _ (Ne.symm hb)
  have noRecord : ∀ b o, s.heap.get? b = some o → (∀ vs, o.data ≠ .fields vs) → b ≠ T := fun b o hb hnf q => by
    rw [q, hT] at hb; injection hb with hb; subst hb; exact hnf ts hdT
  refine wpAny_newEntry hfr (hl.of_keeps fun b o hb hnf => ⟨o, (other b (noRecord b o hb hnf)).trans hb, rfl⟩) hf ((other e (Ne.symm hTe)).trans he)
    (fun b o hbo => (other b fun q => by rw [q, hnT] at hbo; cases hbo).trans (hkb b o hbo)) hen hd (Array.getElem?_eq_some_iff.mp h1).1
    fun h' ⟨x1, x2, x3, x4⟩ => h h' ⟨x1, x2, x3, fun b o hb hnf => x4 b o ((other b (noRecord b o hb hnf)).trans hb) hnf⟩

section
variable {C : Cx} {ρ : Loc} {σ : Sig} {Q : Fl → Loc → Sig → Prop}
/-- a suite of an except clause -/
def Su (C : Cx) (st : List Stmt) (ρ : Loc) (σ : Sig) (Q : Fl → Loc → Sig → Prop) : Prop :=
  ∀ (s : Shared) (e : Value), St C ρ σ s → wpAny (model C.S.prog C.S.w) (C.A.mark (some e)) (execs st C.env) (PostS C σ s Q) (fun _ _ => False) s
/-- an except clause of a class's name -/
structure Cl where
  t : Str
  np : Pos
  b : Stmt
  su : List Stmt
  pos : Pos
def Cl.h (c : Cl) : ExceptHandler := .ExceptHandler (some (.Name c.t c.np)) none (c.b :: c.su) c.pos
/-- the clauses, for an exception of this class -/
def Hd (C : Cx) (cls : String) (ρ : Loc) (σ : Sig) (Q : Fl → Loc → Sig → Prop) : List Cl → Prop
  | [] => False
  | c :: rest => ∃ T b, C.kd c.t = some .globalImplicit ∧ C.S.mg c.t = none ∧ C.S.mb c.t = some (.type T) ∧ (c.t == ("__debug__" : Str)) = false ∧ isSubtype (.type T) (.type "BaseException") = pure true ∧
      isSubtype (.type ((Manifest.find? T).elim "type" fun x => x.metatype)) (.type "tuple") = pure false ∧ isSubtype (.type cls) (.type T) = pure b ∧ (if b = true then Su C (c.b :: c.su) ρ σ Q else Hd C cls ρ σ Q rest)

theorem wp_builtinA {A : Around} {y : Str} {pos : Pos} {v : Value} {s : Shared} {P : Value → Shared → Prop} {E : Value → Shared → Prop} (ok : C.Ok) (x : St C ρ σ s) (hk : C.kd y = some .globalImplicit) (hg : C.S.mg y = Option.none) (hb : C.S.mb y = some v) (h : P v s) (hd : (y == ("__debug__" : Str)) = false) :
    wpAny (model C.S.prog C.S.w) A (eval (.Name y pos) C.env) P E s := by
  refine Calls.Name_function_global ok.kind (ok.kinds y _ hk) (Calls.loadGlobal_builtin (mg := C.S.mg) (mb := C.S.mb) ?_ hg ?_ hb h) hd
  · rw [ok.globals]; exact ok.S.g.keeps x.base
  · rw [ok.builtins]; exact ok.S.b.keeps x.base

theorem handled {cls : String} {E : Value → Shared → Prop} {e T : Addr} {oe oT : Obj} {vs ts : Array Value} (ok : C.Ok) : ∀ (hs : List Cl) (s : Shared) (s₀ : Shared) (σ₀ : Sig), Hd C cls ρ σ Q hs → St C ρ σ s → Step C σ₀ s₀ σ s → s.heap.get? e = some oe → oe.cls = .type cls → oe.data = .fields vs → vs[1]? = some (.ref T) → s.heap.get? T = some oT → oT.data = .fields ts → 3 < ts.size →
    s₀.heap.get? T = none → T ∉ C.own → T ∉ fsOf C.frs → σ T = none → C.S.base.get? T = none → wpAny (model C.S.prog C.S.w) C.A (handleBy (.ref e) C.env (hs.map Cl.h)) (PostS C σ₀ s₀ Q) E s
  | [], _, _, _, h, _, _, _, _, _, _, _, _, _, _, _, _, _, _ => h.elim
  | c :: rest, s, s₀, σ₀, h, x, k, he, hc, hd, h1, hT, hdT, hsz, hT0, hTo, hTf, hTs, hTb => by
    obtain ⟨Ty, b, h2, h3, h4, h5, h6, h7, h8, h9⟩ := h
    show wpAny _ _ (handleBy (.ref e) C.env (.ExceptHandler (some (.Name c.t c.np)) none (c.b :: c.su) c.pos :: rest.map Cl.h)) _ _ _
    refine wpAny_handleBy_builtin (X := cls) (T := Ty) (b := b) h6 h7 h8 (wp_builtinA ok x h2 h3 h4 ⟨rfl, ⟨oe, he, hc⟩, ?_⟩ h5)
    cases b with
    | false => exact handled ok rest s s₀ σ₀ h9 x k he hc hd h1 hT hdT hsz hT0 hTo hTf hTs hTb
    | true =>
      refine wpAny_setFlight_none he hd h1 hT hdT hsz ?_
      have ext : ∀ b o, b ≠ T → s.heap.get? b = some o → (s.heap.update T (Obj.mapFields (·.setIfInBounds 3 .none))).get? b = some o := fun b o hb q => by rw [Heap.get?_update_other _ _ (Ne.symm hb)]; exact q
      have x' : St C ρ σ { s with heap := s.heap.update T (Obj.mapFields (·.setIfInBounds 3 .none)), toks := s.toks } := x.aside ok ⟨hTo, hTf, .inr hTs⟩ hTb hTs (by
        rintro us ⟨o, q, _, n, r⟩
        rw [hT] at q; cases q; rw [hdT] at r; cases r) (fun y c q z => by
        obtain ⟨v, o, e', r⟩ := x.fr.cells y c q
        rw [z, hT] at e'; cases e'; rw [hdT] at r; cases r) ext
      have k' : Step C σ₀ s₀ σ { s with heap := s.heap.update T (Obj.mapFields (·.setIfInBounds 3 .none)), toks := s.toks } := Stp.but hT0 k ext
      exact wpAny_mono (h9 _ (.ref e) x') (fun f s₂ p => p.step k') fun _ _ q => q.elim
end
end SR

set_option maxRecDepth 100000
set_option linter.unusedVariables false
set_option linter.unusedSectionVars false
set_option linter.unusedSimpArgs false
namespace SR
open PySem

theorem not_long {S : Sx} {h : Heap} {a : Addr} {o : AO} {ob : Obj} {vs : Array Value} (x : OR S h a o) (ho : h.get? a = some ob) (hd : ob.data = .fields vs) (hsz : 3 < vs.size) : False := by
  cases o with
  | list ps => obtain ⟨us, ⟨n, e⟩, _⟩ := x; rw [ho] at e; cases e; cases hd
  | dict kvs => obtain ⟨_, ws, ⟨ob', es, ep, e, hx, hd', _⟩, _⟩ := x; rw [ho] at e; cases e; rw [hd] at hd'; cases hd'
  | idict kvs => obtain ⟨_, ws, ⟨ob', es, ep, e, hx, hd', _⟩, _⟩ := x; rw [ho] at e; cases e; rw [hd] at hd'; cases hd'
  | range lo hi => obtain ⟨_, _, _, e⟩ := x; unfold IsRange at e; rw [ho] at e; cases e; cases hd; simp at hsz
  | items d => obtain ⟨o, e, _, hd'⟩ := x; rw [ho] at e; cases e; rw [hd] at hd'; cases hd'; simp at hsz
  | vals d => obtain ⟨o, e, _, hd'⟩ := x; rw [ho] at e; cases e; rw [hd] at hd'; cases hd'; simp at hsz
  | keys d => obtain ⟨o, e, _, hd'⟩ := x; rw [ho] at e; cases e; rw [hd] at hd'; cases hd'; simp at hsz
  | tab pos => obtain ⟨ps, e, r⟩ := x; rw [ho] at e; cases e; cases hd; rcases r with rfl | ⟨c, rfl⟩ <;> simp at hsz

/-- after one more frame was noted -/
theorem left_more {S : Sx} {frs : List Env} {σ : Sig} {s : Shared} {h' : Heap} {e : Addr} {cls : Value} {t : Nat} {ex : List Addr} (g : GSt S frs σ s) (hl : ∀ b ∈ fsOf frs, S.base.get? b = none ∧ σ b = none ∧ ∃ o es ep, s.heap.get? b = some o ∧ o.data = .dict es ep)
    (hex : ∀ b ∈ ex, S.base.get? b = none ∧ σ b = none ∧ ∃ o vs, s.heap.get? b = some o ∧ o.data = .fields vs) (L : Heap.Left (eraseF s.heap (ex ++ fsOf frs)) frs e cls s.heap h') :
    GSt S frs σ { s with heap := h', toks := t } ∧ TupKept s.heap h' ∧ (∀ b o, b ∉ ex → s.heap.get? b = some o → ∃ o', h'.get? b = some o' ∧ SameObj (fsOf frs) b o o') := by
  obtain ⟨k1, k2, k3, k4⟩ := L
  have keep : ∀ b o, b ∉ ex → b ∉ fsOf frs → s.heap.get? b = some o → h'.get? b = some o := fun b o h1 h2 hb => k1 b o (by rw [erase_other _ _ _ (by simp [h1, h2])]; exact hb)
  have keepF : ∀ b o, b ∈ fsOf frs → s.heap.get? b = some o → ∃ o', h'.get? b = some o' ∧ o'.data = o.data := fun b o h1 hb => by
    obtain ⟨_, _, o₁, es, ep, e1, d1⟩ := hl b h1
    rw [hb] at e1; cases e1
    obtain ⟨sl, q⟩ := k4 b o hb fun us z => by rw [d1] at z; cases z
    exact ⟨_, q, rfl⟩
  have tk : TupKept s.heap h' := by
    rintro b us ⟨o, ho, hc, n, hd'⟩
    refine ⟨o, keep b o (fun q => ?_) (fun q => ?_) ho, hc, n, hd'⟩
    · obtain ⟨_, _, o₁, vs, e1, d1⟩ := hex b q
      rw [ho] at e1; cases e1; rw [d1] at hd'; cases hd'
    · obtain ⟨_, _, o₁, es, ep, e1, d1⟩ := hl b q
      rw [ho] at e1; cases e1; rw [d1] at hd'; cases hd'
  refine ⟨⟨fun b o hb => keep b o (fun q => by rw [(hex b q).1] at hb; cases hb) (fun q => by rw [(hl b q).1] at hb; cases hb) (g.base b o hb), g.os, g.gens, fun a o ha => ⟨(g.sig a o ha).1, (g.sig a o ha).2.at tk fun ob q => keep a ob (fun z => by rw [(hex a z).2.1] at ha; cases ha) (fun z => by rw [(hl a z).2.1] at ha; cases ha) q⟩, fun env hm => ?_, g.offF⟩, tk, fun b o hb ho => ?_⟩
  · obtain ⟨h1, L, o, h2, h3, h4, es, ep, h5⟩ := g.frames env hm
    obtain ⟨o', q, d⟩ := keepF L o (List.mem_filterMap.mpr ⟨env, hm, h2⟩) h4
    exact ⟨h1, L, o', h2, h3, q, es, ep, d.trans h5⟩
  · by_cases hf : b ∈ fsOf frs
    · obtain ⟨o', q, d⟩ := keepF b o hf ho
      exact ⟨o', q, .inr ⟨hf, d⟩⟩
    · exact ⟨o, keep b o hb hf ho, .refl _ _ _⟩

section
variable {C : Cx} {ρ : Loc} {σ : Sig} {Q : Fl → Loc → Sig → Prop}
/-- try: y = f(..) except ..: -/
theorem Ex.tryCall {y f : Str} {fa : Addr} {body : List Stmt} {sc : Scope} {xs : List Str} {p' np cpos apos pos : Pos} {args : List Expr} {c₀ : Cl} {cs : List Cl} (ok : C.Ok) (hfrm : ∃ outer, C.frs = C.env :: outer ∧ C.env.frame = some C.env.locals)
    (hf : FnAt C.S f fa body sc xs) (hk : C.kd f = some .globalImplicit) (hy : Stores C y)
    (h : Evs C args ρ σ (fun ps σ₁ => FnE C.S fa C.ro C.room ps σ₁ (fun p σ₂ => Q .next (ρ.set y p) σ₂) (fun cls σ₂ => Hd C cls ρ σ₂ Q (c₀ :: cs))) noX)
    (hs : args.all noStar = true := by rfl) (hd : (f == ("__debug__" : Str)) = false := by decide) :
    Ex C (.Try [.Assign [.Name y p'] (.Call (.Name f np) args [] cpos) apos] (c₀.h :: cs.map Cl.h) [] [] pos) ρ σ Q noX := by
  refine ⟨fun s x => ?_⟩
  obtain ⟨fd, hI, _⟩ := hf
  obtain ⟨o, ho, hdat⟩ := hI.there
  refine wpAny_Try_except (wpAny_execs_cons (wpAny_Assign_Name (wpAny_Call_ofName (wp_global ok x hk hI.glob ?_ hd)) rfl))
  refine Calls.callWith_function (o := o) (fd := fd) (evalArgs_all (starEach_plain args C.env cpos hs) ?_)
  refine wpAny_mono (h.run cpos s x) (fun vs s₁ ⟨ps, σ₁, r, x₁, k₁, h₁⟩ => ⟨⟨x₁.base _ _ ho, hdat⟩, ?_⟩) fun _ _ e => (noExc e).elim
  refine wpAny_call (codeAny_mono (h₁ C.A C.frs s₁ vs ok.room' x₁.toGSt r) ?_)
  rintro r' s' (⟨v, p, σ', rfl, hv, g, k, hq⟩ | ⟨e, cls, σ', rfl, tr, g, k, hσe, hX⟩)
  · obtain ⟨x', k'⟩ := x₁.call ok g k
    refine wp_store ok x' hv hy fun s₂ x₂ k₂ => ?_
    exact wpAny_execs_nil (wpAny_execs_nil ⟨.next, _, σ', trivial, x₂, (k₁.trans k').trans k₂, hq⟩)
  · obtain ⟨outer, hfr, hloc⟩ := hfrm
    obtain ⟨oe, vs', T, oT, ts, a1, a2, a3, a4, a5, a6, a7, a8, a9, a10⟩ := tr
    obtain ⟨x', k'⟩ := x₁.call ok g k
    have hT3 : 3 < ts.size := (Array.getElem?_eq_some_iff.mp a8).1
    have hσT : σ' T = none := by
      cases q : σ' T with
      | none => rfl
      | some ao => exact (not_long (g.sig T ao q).2 a6 a7 hT3).elim
    have hl : ∀ b ∈ fsOf C.frs, C.S.base.get? b = none ∧ σ' b = none ∧ ∃ o es ep, s'.heap.get? b = some o ∧ o.data = .dict es ep := fun b hb => by
      obtain ⟨o, es, ep, h1, h2⟩ := g.frame_data hb
      refine ⟨?_, ?_, o, es, ep, h1, h2⟩
      · obtain ⟨env, hm, hf⟩ := List.mem_filterMap.mp hb
        obtain ⟨_, L', _, h2, h3, _⟩ := g.frames env hm
        rw [hf] at h2; cases h2; exact h3
      · cases q : σ' b with
        | none => rfl
        | some ao => exact (g.offF b ao q hb).elim
    have hex : ∀ b ∈ [e, T], C.S.base.get? b = none ∧ σ' b = none ∧ ∃ o vs, s'.heap.get? b = some o ∧ o.data = .fields vs := fun b hb => by
      simp only [List.mem_cons, List.not_mem_nil, or_false] at hb
      rcases hb with rfl | rfl
      · exact ⟨x₁.fresh_base a9, hσe, oe, vs', a1, a3⟩
      · exact ⟨x₁.fresh_base a10, hσT, oT, ts, a6, a7⟩
    have hframes : C.A.frames = some (C.env :: outer) := by rw [ok.frames, hfr]
    refine note_next (base := eraseF s'.heap ([e, T] ++ fsOf C.frs)) (cls := .type cls) hframes ?_ hloc ⟨oe, vs', T, oT, ts, a1, a2, a3, a4, erase_mem _ _ _ (by simp), a5, a6, a7, a8⟩ ?_ (erase_mem _ _ _ (by simp)) fun h' hLf => ?_
    · rw [← hfr]
      exact gst_frames g _ (fun _ h => h) fun b hb => erase_mem _ _ _ (List.mem_append_right _ hb)
    · intro b o hb
      by_cases hm : b ∈ [e, T] ++ fsOf C.frs
      · rw [erase_mem _ _ _ hm] at hb; cases hb
      · rw [erase_other _ _ _ hm] at hb; exact hb
    · rw [← hfr] at hLf
      obtain ⟨g₃, tk, kp⟩ := left_more (t := s'.toks) g hl hex hLf
      have k₃ : Stp [] C.ro (fsOf C.frs) σ₁ s₁ σ' { s' with heap := h', toks := s'.toks } := by
        refine ⟨fun a ob q nd => ?_, fun a ob q => ?_, k.dom⟩
        · obtain ⟨o', e', z⟩ := k.kept a ob q nd
          obtain ⟨o₂, e₂, z₂⟩ := kp a o' (by
            simp only [List.mem_cons, List.not_mem_nil, or_false]
            rintro (z | z) <;> subst z
            · rw [a9] at q; cases q
            · rw [a10] at q; cases q) e'
          exact ⟨o₂, e₂, z.trans z₂⟩
        · obtain ⟨o', e'⟩ := k.live a ob q
          obtain ⟨o₂, e₂, _⟩ := kp a o' (by
            simp only [List.mem_cons, List.not_mem_nil, or_false]
            rintro (z | z) <;> subst z
            · rw [a9] at q; cases q
            · rw [a10] at q; cases q) e'
          exact ⟨o₂, e₂⟩
      obtain ⟨x₃, k₃'⟩ := x₁.call ok g₃ k₃
      obtain ⟨m1, m2, ⟨oe2, vs2, T2, oT2, ts2, b1, b2, b3, b4, b5, b6, b7, b8, b9⟩, m4⟩ := hLf
      have hT2f : T2 ∉ fsOf C.frs := fun q => by
        obtain ⟨_, _, o, es, ep, e1, d1⟩ := hl T2 q
        obtain ⟨sl, z⟩ := m4 T2 o e1 fun us z => by rw [d1] at z; cases z
        rw [b7] at z; cases z; rw [d1] at b8; cases b8
      have hT21 : s₁.heap.get? T2 = none := by
        by_cases hTT : T2 = T
        · rw [hTT]; exact a10
        · rw [erase_other _ _ _ (by simp [b6, hTT, hT2f])] at b5
          cases q : s₁.heap.get? T2 with
          | none => rfl
          | some o => obtain ⟨o', z⟩ := k.live T2 o q; rw [b5] at z; cases z
      have hsz2 : 3 < ts2.size := (Array.getElem?_eq_some_iff.mp b9).1
      have hσ2 : σ' T2 = none := by
        cases q : σ' T2 with
        | none => rfl
        | some ao => exact (not_long (g₃.sig T2 ao q).2 b7 b8 hsz2).elim
      have := handled (E := Exc C σ s noX) (e := e) ok (c₀ :: cs) { s' with heap := h', toks := s'.toks } s₁ σ₁ hX x₃ k₃' b1 b2 b3 b4 b7 b8 hsz2 hT21 (x₁.fresh_own hT21) hT2f hσ2 (x₁.fresh_base hT21)
      exact wpAny_mono this (fun f s₂ q => q.step k₁) fun _ _ q => q
end
end SR

set_option maxRecDepth 100000
set_option linter.unusedVariables false
set_option linter.unusedSectionVars false
set_option linter.unusedSimpArgs false
namespace SR
open PySem

section
variable {C : Cx} {ρ : Loc} {σ : Sig} {Q : Fl → Loc → Sig → Prop}
end

/-! dicts compared -/
section
variable {C : Cx} {ρ : Loc} {σ : Sig} {X : String → Sig → Prop} {Q : PV → Sig → Prop}
end

section
variable {C : Cx} {ρ : Loc} {σ : Sig} {X : String → Sig → Prop} {Q : PV → Sig → Prop}
end
end SR

set_option maxRecDepth 100000
set_option linter.unusedVariables false
set_option linter.unusedSectionVars false
set_option linter.unusedSimpArgs false
namespace SR
open PySem PyProof.Rows

/-! generator expressions that all or any runs at once -/

/-- the running function's code object, and the main builtins -/
structure GenOk (S : Sx) (env : Env) (c P bm : Addr) (ob : Obj) : Prop where
  code : env.code = .ref c
  isc : ∃ o vs file tf flags tg inF text tt, S.base.get? c = some o ∧ o.cls = .type "code" ∧ o.data = .fields vs ∧ vs[11]? = some (.ref P) ∧ vs.getD 11 .none = .ref P ∧ vs.getD 18 .none = .str file tf ∧
    vs.getD 7 .none = .int flags tg ∧ vs.getD 9 .none = .bool inF ∧ vs.getD 10 .none = .int text tt ∧ c ≠ P
  bmod : BMod S.base mainGlobals S.mg bm ob

section
variable {C : Cx} {ρ : Loc} {σ : Sig} {X : String → Sig → Prop} {Q : PV → Sig → Prop}

theorem wp_name {y : Str} {pos : Pos} {p : PV} {s : Shared} {K : Value → Shared → Prop} {E : Value → Shared → Prop} (ok : C.Ok) (x : St C ρ σ s) (hy : ρ y = some p) (h : ∀ v, VR s.heap v p → K v s) (hd : (y == ("__debug__" : Str)) = false := by decide) :
    wpAny (model C.S.prog C.S.w) C.A (eval (.Name y pos) C.env) K E s := by
  obtain ⟨m, hn, hx⟩ := x.fr.ns
  refine wpAny_Name ?_ hd
  rcases hx y p hy with ⟨h1, v, h2, h3⟩ | ⟨h1, c, v, h2, h4, h5, h6⟩
  · exact wpAny_loadName_local ok.kind h1 hn h2 (h _ h3)
  · rcases h1 with h1 | ⟨h1, h7⟩
    · exact wpAny_loadName_cell ok.kind h1 h2 h5 (h _ h6)
    · exact wpAny_loadName_free ok.kind h1 h2 h5 (h _ h6) h7

theorem tab_code {S : Sx} {env : Env} {c P bm : Addr} {ob : Obj} {gp : Pos} {M : Model} {A : Around} {q : Str} {scope : Scope} {K : Value → Shared → Prop} {E : Value → Shared → Prop} {s : Shared} (hG : GenOk S env c P bm ob)
    (hb : ∀ b o, S.base.get? b = some o → s.heap.get? b = some o) (hor : OR S s.heap P (.tab gp))
    (hK : ∀ code h' tk, Heap.ExtBut P s.heap h' → OR S h' P (.tab gp) → s.heap.objs.size ≤ h'.objs.size → K code { s with heap := h', toks := tk }) : wpAny M A (genexprCode env gp q scope) K E s := by
  obtain ⟨o, vs, file, tf, flags, tg, inF, text, tt, a1, a2, a3, a4, a5, a6, a7, a8, a9, a10⟩ := hG.isc
  obtain ⟨ps, e, r⟩ := id hor
  have htr : TriplesOk ps.toList := by
    rcases r with rfl | ⟨c', rfl⟩ <;> simp [TriplesOk, rawInt]
  have hok : s.heap.IsCode c P ps := ⟨o, vs, file, tf, flags, tg, inF, text, tt, _, hb _ _ a1, a3, a5, a6, a7, a8, a9, e, rfl, htr, a10⟩
  have htab : s.heap.TableAt c P ps := ⟨⟨o, vs, hb _ _ a1, a2, a3, a4⟩, e⟩
  rcases r with rfl | ⟨c', rfl⟩
  · exact wpAny_genexprCodeX hG.code hok htab rfl fun c' h' tk hx hge hlt _ _ htab' _ => hK _ h' tk hx ⟨_, htab'.2, .inr ⟨.ref c', by simp⟩⟩ (Nat.le_trans hge (Nat.le_of_lt hlt))
  · exact wpAny_genexprCode_hit hG.code hok (by simp [codeAmong, rawInt]) (hK c' s.heap s.toks (Heap.ExtBut.refl _ _) hor (Nat.le_refl _))

/-- what a generator is made over -/
structure Src (S : Sx) (a : Addr) (n : Nat) (Pi : Nat → Value → Prop) (s : Shared) : Prop where
  iter : ∀ (A : Around) (Q : Value → Shared → Prop) (E : Value → Shared → Prop), A.handled = none →
    (∀ ob St₀, (∀ A' : Around, A'.handled = none → Walks S.prog S.w A' s.heap.objs.size [s.heap.objs.size, a] [s.heap.objs.size] n Pi St₀) → St₀ 0 (s.heap.push ob) → Q (.ref s.heap.objs.size) { s with heap := s.heap.push ob }) →
      wpAny (model S.prog S.w) A (pyIter (.ref a)) Q E s
  lt : a < s.heap.objs.size
theorem Src.list {S : Sx} {a : Addr} {ps : List PV} {s : Shared} (h : OR S s.heap a (.list ps)) : Src S a ps.length (fun i v => ∃ p, ps[i]? = some p ∧ VR s.heap v p) s := by
  obtain ⟨vs, pl, rs⟩ := h
  have hlt : a < s.heap.objs.size := by obtain ⟨n, e⟩ := pl; exact Heap.lt_size e
  refine ⟨fun A Q E hh hq => ?_, hlt⟩
  refine wpAny_pyIter_list pl.isList (hq _ (fun i h => h.IsListIter s.heap.objs.size a i ∧ h.IsList a vs.toArray) (fun A' hA => ?_) ⟨⟨_, Heap.get?_push_size _ rfl, rfl, rfl⟩, pl.isList.push _⟩)
  have W := Walks.list (prog := S.prog) (w := S.w) hA s.heap.objs.size a (Nat.ne_of_lt hlt) vs.toArray
  rw [show vs.toArray.size = ps.length by simp [rs.length]] at W
  exact { sub := W.sub, frame := W.frame, done := W.done, self := W.self, item := fun i s₁ Q₁ E₁ hi st hQ => W.item i s₁ Q₁ E₁ hi st fun v h' tk hv => hQ v h' tk (by
    obtain ⟨p, h1, h2⟩ := rs.get' i v (by simpa using hv)
    exact ⟨p, h1, h2⟩) }
/-- the item, under any surroundings -/
def GElt (C : Cx) (scope : Scope) (x : Str) (elt : Expr) (Pi : Nat → Value → Prop) (f : Nat → Bool) (h₀ : Heap) : Prop :=
  ∀ (A' : Around) (E' : Value → Shared → Prop) (i : Nat) (v : Value) (s₂ : Shared) (m₂ : Str → Option Value) (code : Value) (L : Addr), A'.handled = none → Pi i v → s₂.heap.Ns L m₂ → m₂ x = some v → (∀ b o, C.S.base.get? b = some o → s₂.heap.get? b = some o) → TupKept h₀ s₂.heap →
    wpAny (model C.S.prog C.S.w) A' (eval elt (genEnv scope [] L code builtinsNs C.env)) (fun y s₃ => y = .bool (f i) ∧ Keeps s₂ s₃) E' s₂

theorem clOf_none {env : Env} : ∀ {names : List (Str × NameKind)} {acc : List (Str × Addr)}, (names.all fun x => x.2 != .free) = true → clOf env names acc = acc
  | [], _, _ => rfl
  | (n, k) :: r, acc, h => by
    rw [List.all_cons, Bool.and_eq_true] at h
    have hk : (k == NameKind.free) = false := by simpa using h.1
    unfold clOf
    simp only [hk]
    exact clOf_none h.2
theorem closure_none {scope : Scope} {env : Env} (h : (scope.names.all fun x => x.2 != .free) = true) : closureFor scope env = pure [] := by
  rw [closureFor_eq fun x hx hf => by
    have := List.all_eq_true.mp h x hx
    rw [hf] at this; cases this]
  rw [clOf_none h]
theorem passing_all (n : Nat) : passing (fun _ => true) n 0 = List.range n := by simp [passing]

theorem St.gen {P : Addr} {gp : Pos} {s s' : Shared} (ok : C.Ok) (x : St C ρ σ s) (hP : σ P = some (.tab gp)) (hro : P ∉ C.ro) (ext : ∀ b o, b ≠ P → s.heap.get? b = some o → s'.heap.get? b = some o) (hor : OR C.S s'.heap P (.tab gp)) (hos : s'.os = s.os) (hgn : C.S.gok s'.gens) :
    St C ρ σ s' ∧ Step C σ s σ s' := by
  have e : σ.set P (.tab gp) = σ := by
    funext b
    by_cases h : b = P
    · subst h; rw [Sig.set_self, hP]
    · rw [Sig.set_ne _ _ h]
  have x1 := x.upd (t := s'.toks) hP ext hor ok
  have k1 : Stp C.own C.ro (fsOf C.frs) σ s (σ.set P (.tab gp)) { s with heap := s'.heap, toks := s'.toks } := Stp.upd (S := C.S) hP hro ext hor
  rw [e] at x1 k1
  exact ⟨⟨⟨x1.base, hos.trans x.os, hgn, x1.sig, x1.frames, x1.offF⟩, x1.fr, x1.off⟩, ⟨k1.kept, k1.live, k1.dom⟩⟩

set_option maxHeartbeats 1000000 in
theorem gen_made {elt : Expr} {z y : Str} {px py gp : Pos} {scope : Scope} {c P bm a : Addr} {ob : Obj} {n : Nat} {Pi : Nat → Value → Prop} {f : Nat → Bool} {s : Shared} {K : Value → Shared → Prop} {E : Value → Shared → Prop}
    (ok : C.Ok) (x : St C ρ σ s) (hG : GenOk C.S C.env c P bm ob) (hP : σ P = some (.tab gp)) (hro : P ∉ C.ro) (hgok : ∀ g, C.S.gok g ↔ AllBare g) (hclos : closureFor scope C.env = pure []) (hco : scope.isCoroutine = false)
    (hcell : ∀ y ∈ scope.names, y.2 ≠ .cell) (h0 : scope.names.lookup (".0" : Str) = some NameKind.local) (hz : scope.names.lookup z = some .local) (hkind : scope.kind = .function)
    (hy : ρ y = some (.ref a)) (hsrc : Src C.S a n Pi s) (haP : a ≠ P) (hd : (y == ("__debug__" : Str)) = false) (hq : GElt C scope z elt Pi f s.heap)
    (hK : ∀ g s₅ fp wr St₅ I, WalksS C.S.prog C.S.w C.A.in4 I fp wr (GenOnlyQ g) n (fun j y => y = .bool (f j)) St₅ → St₅ 0 s₅ → (∀ s', Moved wr (GenOnlyQ g) s₅ s' → St C ρ σ s' ∧ Step C σ s σ s') → K (.ref I) s₅) :
    wpAny (model C.S.prog C.S.w) C.A (eval (.GeneratorExp elt [⟨.Name z px, .Name y py, [], 0⟩] scope gp) C.env) K E s := by
  have hroom : C.A.depth < recursionLimit := by have := ok.depth; omega
  obtain ⟨hPb, hor⟩ := x.sig P _ hP
  have hPlt : P < s.heap.objs.size := by obtain ⟨ps, e, _⟩ := hor; exact Heap.lt_size e
  have hlim : s.heap.NoLimit := ok.S.nolimit.keeps x.base
  have hclt : cStatics < s.heap.objs.size := let ⟨_, hn, _⟩ := hlim; hn.lt
  refine wpAny_GeneratorExp_walksQ ok.hh hco hclos hcell h0 hz hkind hroom (wp_name ok x hy (fun v hv => ?_) hd) fun _ => rfl
  cases hv
  refine hsrc.iter C.A _ _ ok.hh fun obi St₀ W hst => ⟨hlim.push _, ?_⟩
  have kp : ∀ b o, s.heap.get? b = some o → (s.heap.push obi).get? b = some o := fun b o e => Heap.get?_push_of_some _ e
  refine tab_code hG (fun b o e => kp b o (x.base b o e)) (by obtain ⟨ps, e, r⟩ := hor; exact ⟨ps, kp _ _ e, r⟩) fun code h₃ tk₃ hx₃ hor₃ hsz₃ => ?_
  have hsz₃' : s.heap.objs.size < h₃.objs.size := by
    have : (s.heap.push obi).objs.size ≤ h₃.objs.size := hsz₃
    rw [Heap.size_push] at this; exact this
  have kp₃ : ∀ b o, b ≠ P → s.heap.get? b = some o → h₃.get? b = some o := fun b o hb e => hx₃ b o hb (kp b o e)
  have hb₃ : ∀ b o, C.S.base.get? b = some o → h₃.get? b = some o := fun b o e => kp₃ b o (fun q => by rw [q, hPb] at e; cases e) (x.base b o e)
  have M₃ := hG.bmod.keeps hb₃
  rw [ok.globals]
  refine wpAny_builtinsFor M₃.ns M₃.name M₃.ne M₃.obj M₃.cls M₃.dict M₃.data ?_
  have hIP : s.heap.objs.size ≠ P := fun q => Nat.lt_irrefl _ (q ▸ hPlt)
  refine ⟨_, _, _, n, Pi, St₀, fun _ => true, fun i v => v = .bool (f i), rfl, W, ?_, ?_, ok.S.nolimit.keeps hb₃, ?_, ?_, ?_⟩
  · refine (W C.A ok.hh).frame 0 _ _ hst fun b hb o e => hx₃ b o ?_ e
    simp only [List.mem_cons, List.not_mem_nil, or_false] at hb
    rcases hb with rfl | rfl
    · exact hIP
    · exact haP
  · intro b hb
    simp only [List.mem_cons, List.not_mem_nil, or_false] at hb
    show b < h₃.objs.size
    rcases hb with rfl | rfl
    · exact hsz₃'
    · exact Nat.lt_trans hsrc.lt hsz₃'
  · simp only [List.mem_cons, List.not_mem_nil, or_false]
    exact Nat.ne_of_lt hclt
  · intro href hhref
    have keepE : ∀ s₂ : Shared, (∀ b ∈ List.range h₃.objs.size, b ∉ [s.heap.objs.size] → ∀ o, href.get? b = some o → s₂.heap.get? b = some o) → ∀ b o, b ≠ P → s.heap.get? b = some o → s₂.heap.get? b = some o := fun s₂ hk b o hb e =>
      hk b (List.mem_range.mpr (Heap.lt_size (kp₃ b o hb e))) (by simp only [List.mem_cons, List.not_mem_nil, or_false]; exact Nat.ne_of_lt (Heap.lt_size e)) o (hhref b o (kp₃ b o hb e))
    refine ⟨fun A' E' i v s₂ m₂ hA hv hn hm hk => ?_, fun A' E' i v s₂ m₂ hA hv _ hn hm hk => ?_⟩
    · exact wpAny_pure ⟨rfl, s₂.heap, s₂.toks, rfl, fun _ _ e => e⟩
    · refine hq A' E' i v s₂ m₂ code h₃.objs.size hA hv hn hm (fun b o e => keepE s₂ hk b o (fun q => by rw [q, hPb] at e; cases e) (x.base b o e)) ?_
      rintro b vs ⟨o, e, hc, r⟩
      refine ⟨o, keepE s₂ hk b o (fun q => ?_) e, hc, r⟩
      obtain ⟨ps, e', _⟩ := hor
      rw [q, e'] at e; cases e; simp at hc
  · intro a' h₅ tk gs hgb hag hsz₅ hk₅ W' hat
    rw [passing_all, List.length_range] at W'
    refine hK _ _ _ _ _ a' (WalksS.mk W'.sub W'.grefl W'.gtrans W'.frame (fun i s₁ Q₁ E₁ hi st hQ => W'.item i s₁ Q₁ E₁ hi st fun v s' hv => hQ v s' (by
      obtain ⟨j, h1, h2⟩ := hv
      rw [List.getElem?_range hi] at h1
      cases h1; exact h2)) W'.done W'.self) hat fun s' hm => ?_
    have hag' : h₃.objs.size < a' := hag
    refine St.gen ok x hP hro (fun b o hb e => ?_) ?_ (hm.os.trans rfl) ((hgok _).mpr ?_)
    · refine hm.heap b o ?_ (hk₅ b o (kp₃ b o hb e))
      have hbl := Heap.lt_size e
      simp only [List.mem_cons, List.not_mem_nil, or_false]
      rintro (q | q)
      · exact Nat.ne_of_lt (Nat.lt_trans hbl hsz₃') q
      · exact Nat.ne_of_lt hbl q
    · obtain ⟨ps, e, r⟩ := hor₃
      refine ⟨ps, hm.heap P _ ?_ (hk₅ P _ e), r⟩
      simp only [List.mem_cons, List.not_mem_nil, or_false]
      rintro (q | q)
      · exact Nat.ne_of_lt (Nat.lt_trans hPlt hsz₃') q
      · exact Nat.ne_of_lt hPlt q
    · exact hm.gens.bare (AllBare.push ((hgok _).mp x.gens) hgb)

theorem Ev.anyGen {elt : Expr} {z y : Str} {np px py gp pos : Pos} {scope : Scope} {c P bm a : Addr} {ob : Obj} {n : Nat} {Pi : Shared → Nat → Value → Prop} {f : Nat → Bool}
    (ok : C.Ok) (hall : Bi C.S "any" (.builtin "any")) (hk : C.kd (Str.ofString "any") = some .globalImplicit) (hG : GenOk C.S C.env c P bm ob) (hP : σ P = some (.tab gp)) (hro : P ∉ C.ro) (hgok : ∀ g, C.S.gok g ↔ AllBare g) (hy : ρ y = some (.ref a)) (haP : a ≠ P)
    (hsrc : ∀ s, St C ρ σ s → Src C.S a n (Pi s) s) (hq : ∀ s, St C ρ σ s → GElt C scope z elt (Pi s) f s.heap) (h : Q (.bool ((List.range n).any f)) σ)
    (hfree : (scope.names.all fun x => x.2 != .free) = true := by decide +kernel) (hco : scope.isCoroutine = false := by rfl)
    (hcell : ∀ y ∈ scope.names, y.2 ≠ .cell := by decide +kernel) (h0 : scope.names.lookup (".0" : Str) = some NameKind.local := by decide +kernel) (hz : scope.names.lookup z = some .local := by decide +kernel) (hkind : scope.kind = .function := by rfl) (hd : (y == ("__debug__" : Str)) = false := by decide) :
    Ev C (.Call (.Name (Str.ofString "any") np) [.GeneratorExp elt [⟨.Name z px, .Name y py, [], 0⟩] scope gp] [] pos) ρ σ Q X := by
  refine ⟨fun s x => ?_⟩
  refine wpAny_Call_ofName (wp_builtin ok x hk hall.g hall.b ?_ (by decide))
  have hp := starEach_plain [.GeneratorExp elt [⟨.Name z px, .Name y py, [], 0⟩] scope gp] C.env pos rfl
  refine Calls.callWith_builtin (List.any_eq_false.mpr fun y hy => by rw [hp y hy]; simp) (evalArgs_all hp ?_)
  rw [starEach_cons [] C.env rfl]
  show wpAny _ _ (spliced ((false, eval _ C.env) :: backTo pos (starEach [] C.env))) _ _ s
  refine Calls.spliced_cons (gen_made ok x hG hP hro hgok (closure_none hfree) hco hcell h0 hz hkind hy (hsrc s x) haP hd (hq s x) fun g s₅ fp wr St₅ I W hat hfin => ?_)
  refine Calls.spliced_nil ?_
  have W1 := W.in4_1
  refine call_any_walkS (W1.self 0 _ _ _ hat ⟨I, _, _, _, _, _, _, f, rfl, W1, hat, fun i v s₁ Q₁ E₁ hv hq₁ => ?_, fun s' hm => ?_⟩)
  · subst hv; exact wpAny_truthy_bool hq₁
  · obtain ⟨x', k'⟩ := hfin s' hm
    exact ⟨_, σ, .bool _, x', k', h⟩

/-- z[1] < 1 -/
theorem GElt.below {scope : Scope} {z : Str} {p1 p2 p3 p4 p5 : Pos} {k1 k2 : Nat} {l : List (Str × Int)} {h₀ : Heap} (ok : C.Ok) (hz : scope.names.lookup z = some .local) (hkind : scope.kind = .function) (hd : (z == ("__debug__" : Str)) = false) :
    GElt C scope z (.Compare (.Subscript (.Name z p1) (.Constant (.int 1) k1 p2) p3) [.Lt] [.Constant (.int 1) k2 p4] p5) (fun i v => ∃ p, (rows l)[i]? = some p ∧ VR h₀ v p) (fun i => decide (((l.map (·.2)).getD i 0) < 1)) h₀ := by
  intro A' E' i v s₂ m₂ code L hA hv hn hm hb htk
  obtain ⟨p, hp, r⟩ := hv
  obtain ⟨x, hx, rfl⟩ := rows_get hp
  have r' := r.mono htk
  unfold row at r'
  cases r' with
  | @tup t vs _ ht rs =>
    obtain ⟨v0, ws, rfl, r0, rs⟩ := rs.cons_inv
    obtain ⟨v1, ws, rfl, r1, rs⟩ := rs.cons_inv
    obtain rfl := rs.nil_inv
    cases r1
    refine wpAny_Compare1 (Subscript_ (wpAny_Name (wpAny_loadName_local hkind hz hn hm ?_) hd)) rfl
    refine wpAny_Constant_int ?_
    refine item_tupleT (s := { s₂ with toks := s₂.toks + 1 }) (j := 1) ht (by decide) (by decide) rfl rfl ?_ (noSlice_is rfl _ _)
    refine wpAny_Constant_int ?_
    refine P.lt_int ⟨?_, s₂.heap, _, rfl, fun _ _ e => e⟩
    have : (l.map (·.2)).getD i 0 = x.2 := by
      rw [List.getD_eq_getElem?_getD, List.getElem?_map, hx]; rfl
    show Value.bool _ = Value.bool (decide ((l.map (·.2)).getD i 0 < 1))
    rw [this]
end

/-! a def whose code object is known -/
def FnAtC (S : Sx) (f : Str) (fa : Addr) (body : List Stmt) (sc : Scope) (xs : List Str) (c : Addr) : Prop :=
  ∃ fd, IsFn S f fa fd ∧ fd.body = .stmts body ∧ fd.scope = sc ∧ fd.closure = [] ∧ fd.globals = mainGlobals ∧ fd.builtins = builtinsNs ∧ (∀ vs : List Value, vs.length = xs.length → bindArgs fd ⟨vs, []⟩ = pure (xs.zip vs)) ∧ fd.code = .ref c
theorem FnAt.withCode {S : Sx} {f : Str} {fa c : Addr} {body : List Stmt} {sc : Scope} {xs : List Str} {o : Obj} {fd : FuncData} (hf : FnAt S f fa body sc xs) (ho : S.base.get? fa = some o) (hd : o.data = .func fd) (hc : fd.code = .ref c) : FnAtC S f fa body sc xs c := by
  obtain ⟨fd', hI, h1, h2, h3, h4, h5, h6⟩ := hf
  obtain ⟨o', ho', hd'⟩ := hI.there
  rw [ho] at ho'; cases ho'
  rw [hd] at hd'; cases hd'
  exact ⟨_, hI, h1, h2, h3, h4, h5, h6, hc⟩
theorem Fn.atG {S : Sx} {σ : Sig} {Q : PV → Sig → Prop} {ro : List Addr} {f : Str} {fa c : Addr} {body : List Stmt} {sc : Scope} {xs : List Str} {room : Nat} {ps : List PV} (oS : S.Ok) (hf : FnAtC S f fa body sc xs c) (so : ScOk sc xs) (hlen : ps.length = xs.length)
    (h : ∀ g, (mkC S sc ro room g).Ok → (∀ x, kdOf sc x = some .cell → (g.env.cells.lookup x).isSome) → (∃ outer, g.frs = g.env :: outer ∧ g.env.frame = some g.env.locals) → g.env.code = .ref c → Exs (mkC S sc ro room g) body (Loc.nil.bind (xs.zip ps)) σ (fun fl _ σ' => Q (retv fl) σ') noX) :
    Fn S fa ro (room + 1) ps σ Q := by
  obtain ⟨fd, hI, hb, rfl, hcl, hg, hbt, hbind, hcd⟩ := hf
  refine Fn.body oS hI hb hcl hg hbt hlen hbind so.params so.cells so.kind so.co so.gen fun A frs L ok => ?_
  have := h ⟨A.deeper (calleeEnv fd L fa), calleeEnv fd L fa, (calleeCx S fd ro room A frs L fa).own, calleeEnv fd L fa :: frs⟩ ok (fun x hx => PySem.W.cellsFrom_some _ _ _ (.inl hx)) ⟨frs, rfl, rfl⟩ hcd
  refine ⟨TrS.mono this.run fun fl ρ' σ' hq => ?_⟩
  cases fl <;> exact hq

/-! the law's world without the text's table -/
def lessP (h : Heap) (P : Addr) : Heap := h.update P fun o => { o with data := .freed }
theorem lessP_none (h : Heap) (P : Addr) : (lessP h P).get? P = none := erase_one_self h P
theorem lessP_ne (h : Heap) {P b : Addr} (hb : b ≠ P) : (lessP h P).get? b = h.get? b := Heap.get?_update_other _ _ (Ne.symm hb)
theorem lessP_some {h : Heap} {P b : Addr} {o : Obj} (e : (lessP h P).get? b = some o) : b ≠ P ∧ h.get? b = some o := by
  have hb : b ≠ P := fun q => by rw [q, lessP_none] at e; cases e
  exact ⟨hb, by rw [lessP_ne h hb] at e; exact e⟩
def lawT (prog : Program) (w : World) (s₁ : Shared) (P : Addr) (mg mb : Str → Option Value) : Sx := ⟨prog, w, lessP s₁.heap P, mg, mb, s₁.os, AllBare⟩
def tabSig (P : Addr) (gp : Pos) : Sig := Sig.set (fun _ => none) P (.tab gp)

section
variable {prog : Program} {w : World} {s₁ : Shared} {mg mb : Str → Option Value} {c P : Addr}
theorem lessP_keeps (B : Based s₁.heap s₁.heap c P #[]) {b : Addr} {o : Obj} (e : s₁.heap.get? b = some o) (hd : o.cls ≠ .none ∨ o.data ≠ .fields #[]) : (lessP s₁.heap P).get? b = some o := by
  rw [lessP_ne]
  · exact e
  · rintro rfl
    rw [B.tab.2] at e; cases e
    rcases hd with h | h <;> exact h rfl
theorem lessP_ns (B : Based s₁.heap s₁.heap c P #[]) {b : Addr} {m : Str → Option Value} (h : s₁.heap.Ns b m) : (lessP s₁.heap P).Ns b m := by
  obtain ⟨o, es, ep, e, hd, r⟩ := h
  exact ⟨o, es, ep, lessP_keeps B e (.inr (by rw [hd]; simp)), hd, r⟩
theorem lessP_tup (B : Based s₁.heap s₁.heap c P #[]) : TupKept s₁.heap (lessP s₁.heap P) := by
  rintro a vs ⟨o, e, hc, r⟩
  exact ⟨o, lessP_keeps B e (.inl (by rw [hc]; simp)), hc, r⟩
theorem lawT_ok (B : Based s₁.heap s₁.heap c P #[]) (hg : s₁.heap.Ns mainGlobals mg) (hb : s₁.heap.Ns builtinsNs mb) (hn : s₁.heap.NoLimit) : (lawT prog w s₁ P mg mb).Ok :=
  ⟨lessP_ns B hg, lessP_ns B hb, let ⟨mc, h1, h2⟩ := hn; ⟨mc, lessP_ns B h1, h2⟩⟩
theorem FnAt.less (B : Based s₁.heap s₁.heap c P #[]) {f : Str} {fa : Addr} {body : List Stmt} {sc : Scope} {xs : List Str} (hf : FnAt (lawS prog w s₁ mg mb) f fa body sc xs) : FnAt (lawT prog w s₁ P mg mb) f fa body sc xs := by
  obtain ⟨fd, ⟨h1, ⟨o, ho, hd⟩, ⟨c', oc, vs, t, e1, e2, e3, e4⟩⟩, r⟩ := hf
  refine ⟨fd, ⟨h1, ⟨o, lessP_keeps B ho (.inr (by rw [hd]; simp)), hd⟩, ⟨c', oc, vs, t, e1, lessP_keeps B e2 (.inr ?_), e3, e4⟩⟩, r⟩
  rw [e3]
  intro q
  cases q
  simp at e4
theorem Script.less (B : Based s₁.heap s₁.heap c P #[]) {sa : Addr} {ns : List Int} (h : Script (lawS prog w s₁ mg mb) sa ns) : Script (lawT prog w s₁ P mg mb) sa ns := by
  obtain ⟨vs, ⟨o, e, hc, r⟩, h2⟩ := h
  exact ⟨vs, ⟨o, lessP_keeps B e (.inl (by rw [hc]; simp)), hc, r⟩, h2.mono (lessP_tup B)⟩
theorem Bi.less {x : String} {v : Value} (h : Bi (lawS prog w s₁ mg mb) x v) : Bi (lawT prog w s₁ P mg mb) x v := ⟨h.g, h.b⟩
theorem genOk_of (B : Based s₁.heap s₁.heap c P #[]) {env : Env} {bm : Addr} {ob : Obj} (M : BMod s₁.heap mainGlobals mg bm ob) (he : env.code = .ref c) : GenOk (lawT prog w s₁ P mg mb) env c P bm ob := by
  obtain ⟨o, vs, file, tf, flags, tg, inF, text, tt, op, a1, a2, a3, a4, a5, a6, a7, a8, a9, a10, a11⟩ := B.code
  obtain ⟨o', vs', b1, b2, b3, b4⟩ := B.tab.1
  rw [a1] at b1; cases b1
  rw [a2] at b3; cases b3
  refine ⟨he, ⟨o, vs, file, tf, flags, tg, inF, text, tt, lessP_keeps B a1 (.inl (by rw [b2]; simp)), b2, a2, b4, a3, a4, a5, a6, a7, a11⟩, ⟨lessP_ns B M.ns, M.name, M.ne, lessP_keeps B M.obj (.inl (by rw [M.cls]; simp)), M.cls, M.dict, M.data⟩⟩

theorem law_endT {cw : PySem.W.ClaimW} {cl : Str → Option Addr} {mean : ExcName → Option Value} {args : List PySem.W.WData} {fa sa : Addr} {gp : Pos} (B : Based s₁.heap s₁.heap c P #[]) (hg : s₁.gens = #[])
    (hr : ∀ cls, cw.raises args cls = false) (hp : cw.post args (.bool true) args = true)
    (h : Fn (lawT prog w s₁ P mg mb) fa [] 20 [.ref sa] (tabSig P gp) (fun p σ' => p = .bool true ∧ σ' P = some (.tab gp))) :
    wpAny (model prog w) callerA (PySem.call (.ref fa) [.ref sa]) (fun v s' => PySem.W.GoodWG cw cl mean args s₁ (.ok (.ret v)) s') (fun e s' => PySem.W.GoodWG cw cl mean args s₁ (.error e) s') s₁ := by
  have g : GSt (lawT prog w s₁ P mg mb) [] (tabSig P gp) s₁ := by
    refine ⟨fun _ _ e => (lessP_some e).2, rfl, AllBare.of_eq hg, fun a o e => ?_, fun _ h => (nomatch h), fun a o _ h => (nomatch h)⟩
    unfold tabSig Sig.set at e
    split at e
    · next hq =>
      subst hq
      cases e
      exact ⟨lessP_none _ _, ⟨_, B.tab.2, .inl rfl⟩⟩
    · cases e
  refine wpAny_call (codeAny_mono (h callerA [] s₁ [.ref sa] ⟨rfl, by decide, by decide, rfl⟩ g (.cons (.ref _) .nil)) ?_)
  rintro r s' ⟨v, p, σ', rfl, hv, g', k, rfl, hσ⟩
  cases hv
  obtain ⟨hPb, ps, e, _⟩ := g'.sig P _ hσ
  have ext : ∀ b o, b ≠ P → s₁.heap.get? b = some o → s'.heap.get? b = some o := fun b o hb e => g'.base b o (by
    show (lessP s₁.heap P).get? b = some o
    rw [lessP_ne _ hb]; exact e)
  have hcP : c ≠ P := by
    obtain ⟨_, _, _, _, _, _, _, _, _, _, _, _, _, _, _, _, _, _, _, _, q⟩ := B.code
    exact q
  obtain ⟨⟨oc, vc, c1, c2⟩, _⟩ := B.tab
  refine ⟨.inl ⟨_, _, _, rfl, hr, .bool true, hp, PyProof.Rows.unshared_nil⟩, OldK.step_table (.refl _) B.tab B.tab (more := ps) ⟨⟨oc, vc, ext c oc hcP c1, c2⟩, ?_⟩ (fun b o hb q => ext b o hb q) B.notStatics, g'.os, g'.gens⟩
  rw [e]; simp
end
end SR

set_option maxRecDepth 100000
set_option linter.unusedVariables false
set_option linter.unusedSectionVars false
set_option linter.unusedSimpArgs false
namespace SR
open PySem

/-! raising, and suites that return -/
section
variable {C : Cx} {ρ : Loc} {σ : Sig} {X : String → Sig → Prop} {Q : Fl → Loc → Sig → Prop}
/-- raise CLS(..), by the class's facts -/
theorem Ex.raiseK {cls N I : String} (F : PyProof.Rows.ExcClass cls N I) {y : Str} {np cpos pos : Pos} {args : List Expr} (ok : C.Ok) (hk : C.kd y = some .globalImplicit) (hg : C.S.mg y = Option.none) (hb : C.S.mb y = some (.type cls))
    (h : Evs C args ρ σ (fun ps σ₁ => ps.length ≤ 1000 ∧ X cls σ₁) X) (hs : args.all noStar = true := by rfl) (hd : (y == ("__debug__" : Str)) = false := by decide) : Ex C (.Raise (some (.Call (.Name y np) args [] cpos)) none pos) ρ σ Q X := by
  refine ⟨fun s x => ?_⟩
  have hp := starEach_plain args C.env cpos hs
  refine PyProof.Rows.Raise_new ok.hh (wpAny_Call_ofName (wp_builtin ok x hk hg hb ?_ hd))
  refine callWith_excType (List.any_eq_false.mpr fun y hy => by rw [hp y hy]; simp) (evalArgs_all hp ?_)
  refine wpAny_mono (h.run cpos s x) (fun vs s₁ ⟨ps, σ₁, r, x₁, k₁, hl, hX⟩ => ?_) fun _ _ e => e
  refine PyProof.Rows.call_exc_raise F (fun h' e hx => ?_) (by show vs.length ≤ 2 ^ 24; rw [r.length]; omega)
  have q : Exc C σ₁ s₁ X (.ref e) { s₁ with heap := h', toks := s₁.toks } := Exc.made x₁ hx hX
  exact q.step k₁

/-- return ('..', None) -/
theorem Su.retPair {y : Str} {k1 k2 k p1 p2 p' pos} (h : Q (.ret (.tup [.str y, .none])) ρ σ) : Su C [.Return (some (.Tuple [.Constant (.str y) k1 p1, .Constant .none k2 p2] k p')) pos] ρ σ Q := by
  intro s e x
  refine wpAny_execs_cons (wpAny_Return_some (PyProof.Rows.Tuple_ ?_))
  refine Calls.spliced_cons (x := eval (.Constant (.str y) k1 p1) C.env) (wpAny_Constant_str ?_)
  refine Calls.spliced_cons (x := eval (.Constant .none k2 p2) C.env) (wpAny_Constant_none ?_)
  refine Calls.spliced_nil ?_
  refine wpAny_newTuple ?_ (by show 2 ≤ 2 ^ 24; decide)
  have kp : ∀ b o, s.heap.get? b = some o → (s.heap.push { cls := .type "tuple", data := .seq [Value.str y s.toks, .none].toArray }).get? b = some o := fun b o e => Heap.get?_push_of_some _ e
  exact ⟨.ret (.tup [.str y, .none]), ρ, σ, .tup (vs := [Value.str y s.toks, .none]) ⟨_, Heap.get?_push_size _ rfl, rfl, _, rfl⟩ (.cons (.str _ _) (.cons .none .nil)), x.ext (t := s.toks + 1) kp, Stp.ext (t := s.toks + 1) kp, h⟩
end

/-! dict comprehensions -/
section
variable {prog : Program} {w : World} {A : Around} {R : Result → Shared → Prop} {s : Shared}
end

section
variable {S : Sx} {sc : Scope} {ro : List Addr} {room : Nat} {g : Gh} {ρ : Loc} {σ : Sig}
end

section
variable {S : Sx} {sc : Scope} {ro : List Addr} {room : Nat} {g : Gh} {ρ : Loc} {σ : Sig} {X : String → Sig → Prop}

end
end SR

set_option maxRecDepth 100000
set_option linter.unusedVariables false
set_option linter.unusedSectionVars false
set_option linter.unusedSimpArgs false
namespace SR
open PySem

section
variable {prog : Program} {w : World} {A : Around} {E : Value → Shared → Prop} {s : Shared}
end

namespace F
end F

section
variable {prog : Program} {w : World} {A : Around} {R : Result → Shared → Prop}
end

section
variable {prog : Program} {w : World} {A : Around} {E : Value → Shared → Prop} {s : Shared}
end

section
variable {C : Cx} {ρ : Loc} {σ : Sig} {X : String → Sig → Prop} {Q : PV → Sig → Prop}
end
end SR

set_option maxRecDepth 100000
set_option linter.unusedVariables false
namespace SR
open PySem
/-! what a goal is: with these a walk looks at the goal's head first -/
namespace Gd
variable {C : Cx} {ρ : Loc} {σ : Sig} {X : String → Sig → Prop}
section
variable {Q : Fl → Loc → Sig → Prop}
theorem exs {st : List Stmt} (h : Exs C st ρ σ Q X) : Exs C st ρ σ Q X := h
theorem ex {st : Stmt} (h : Ex C st ρ σ Q X) : Ex C st ρ σ Q X := h
theorem «if» {t : Expr} {a b : List Stmt} {p : Pos} (h : Ex C (.If t a b p) ρ σ Q X) : Ex C (.If t a b p) ρ σ Q X := h
theorem ret {e : Expr} {p : Pos} (h : Ex C (.Return (some e) p) ρ σ Q X) : Ex C (.Return (some e) p) ρ σ Q X := h
theorem «for» {t i : Expr} {b o : List Stmt} {p : Pos} (h : Ex C (.For t i b o p) ρ σ Q X) : Ex C (.For t i b o p) ρ σ Q X := h
theorem expr {e : Expr} {p : Pos} (h : Ex C (.Expr e p) ρ σ Q X) : Ex C (.Expr e p) ρ σ Q X := h
theorem setItem {o i v : Expr} {p q : Pos} (h : Ex C (.Assign [.Subscript o i p] v q) ρ σ Q X) : Ex C (.Assign [.Subscript o i p] v q) ρ σ Q X := h
theorem asT {es : List Expr} {k} {v : Expr} {p q : Pos} (h : Ex C (.Assign [.Tuple es k p] v q) ρ σ Q X) : Ex C (.Assign [.Tuple es k p] v q) ρ σ Q X := h
theorem asC {y : Str} {e : Expr} {gs : List Comprehension} {sc : Scope} {p q r : Pos} (h : Ex C (.Assign [.Name y p] (.ListComp e gs sc q) r) ρ σ Q X) : Ex C (.Assign [.Name y p] (.ListComp e gs sc q) r) ρ σ Q X := h
end
section
variable {Q : Bool → Sig → Prop}
theorem te {e : Expr} (h : Te C e ρ σ Q X) : Te C e ρ σ Q X := h
theorem tcmp {l : Expr} {o : List CmpOp} {r : List Expr} {p : Pos} (h : Te C (.Compare l o r p) ρ σ Q X) : Te C (.Compare l o r p) ρ σ Q X := h
theorem tnot {e : Expr} {p : Pos} (h : Te C (.UnaryOp .Not e p) ρ σ Q X) : Te C (.UnaryOp .Not e p) ρ σ Q X := h
theorem tor {e : List Expr} {p : Pos} (h : Te C (.BoolOp .Or e p) ρ σ Q X) : Te C (.BoolOp .Or e p) ρ σ Q X := h
theorem tand {e : List Expr} {p : Pos} (h : Te C (.BoolOp .And e p) ρ σ Q X) : Te C (.BoolOp .And e p) ρ σ Q X := h
theorem tes {es : List Expr} (h : Tes C es ρ σ Q) : Tes C es ρ σ Q := h
theorem opt {a : PV} (h : OpT C a ρ σ Q X) : OpT C a ρ σ Q X := h
end
section
variable {Q : List PV → Sig → Prop}
theorem evs {e : List Expr} (h : Evs C e ρ σ Q X) : Evs C e ρ σ Q X := h
end
section
variable {Q : PV → Sig → Prop}
theorem ev {e : Expr} (h : Ev C e ρ σ Q X) : Ev C e ρ σ Q X := h
theorem name {y : Str} {p : Pos} (h : Ev C (.Name y p) ρ σ Q X) : Ev C (.Name y p) ρ σ Q X := h
theorem cst {c : Const} {k : Nat} {p : Pos} (h : Ev C (.Constant c k p) ρ σ Q X) : Ev C (.Constant c k p) ρ σ Q X := h
theorem li {o : Expr} {p q r s : Pos} (h : Ev C (.Call (.Name (Str.ofString "list") p) [.Call (.Attribute o (Str.ofString "items") q) [] [] r] [] s) ρ σ Q X) : Ev C (.Call (.Name (Str.ofString "list") p) [.Call (.Attribute o (Str.ofString "items") q) [] [] r] [] s) ρ σ Q X := h
theorem call {f : Str} {as : List Expr} {p q : Pos} (h : Ev C (.Call (.Name f p) as [] q) ρ σ Q X) : Ev C (.Call (.Name f p) as [] q) ρ σ Q X := h
theorem meth {o : Expr} {m : Str} {as : List Expr} {p q : Pos} (h : Ev C (.Call (.Attribute o m p) as [] q) ρ σ Q X) : Ev C (.Call (.Attribute o m p) as [] q) ρ σ Q X := h
theorem m (m : Str) {o : Expr} {as : List Expr} {p q : Pos} (h : Ev C (.Call (.Attribute o m p) as [] q) ρ σ Q X) : Ev C (.Call (.Attribute o m p) as [] q) ρ σ Q X := h
theorem bin {l r : Expr} {o : Operator} {p : Pos} (h : Ev C (.BinOp l o r p) ρ σ Q X) : Ev C (.BinOp l o r p) ρ σ Q X := h
theorem cmp {l : Expr} {o : List CmpOp} {r : List Expr} {p : Pos} (h : Ev C (.Compare l o r p) ρ σ Q X) : Ev C (.Compare l o r p) ρ σ Q X := h
theorem un {o : UnaryOp} {e : Expr} {p : Pos} (h : Ev C (.UnaryOp o e p) ρ σ Q X) : Ev C (.UnaryOp o e p) ρ σ Q X := h
theorem tup {es : List Expr} {k} {p : Pos} (h : Ev C (.Tuple es k p) ρ σ Q X) : Ev C (.Tuple es k p) ρ σ Q X := h
theorem lst {es : List Expr} {p : Pos} (h : Ev C (.List es p) ρ σ Q X) : Ev C (.List es p) ρ σ Q X := h
theorem dct {p : Pos} (h : Ev C (.Dict [] [] p) ρ σ Q X) : Ev C (.Dict [] [] p) ρ σ Q X := h
theorem sub {v i : Expr} {p : Pos} (h : Ev C (.Subscript v i p) ρ σ Q X) : Ev C (.Subscript v i p) ρ σ Q X := h
theorem comp {e : Expr} {gs : List Comprehension} {sc : Scope} {p : Pos} (h : Ev C (.ListComp e gs sc p) ρ σ Q X) : Ev C (.ListComp e gs sc p) ρ σ Q X := h
theorem ife {t a b : Expr} {p : Pos} (h : Ev C (.IfExp t a b p) ρ σ Q X) : Ev C (.IfExp t a b p) ρ σ Q X := h
theorem opb {o : Operator} {a b : PV} (h : OpBin C o a b ρ σ Q X) : OpBin C o a b ρ σ Q X := h
theorem opc {o : CmpOp} {a b : PV} (h : OpCmp C o a b ρ σ Q X) : OpCmp C o a b ρ σ Q X := h
theorem opu {o : UnaryOp} {a : PV} (h : OpUn C o a ρ σ Q X) : OpUn C o a ρ σ Q X := h
theorem opn {f : Value} {ps : List PV} (h : OpN C f ps ρ σ Q X) : OpN C f ps ρ σ Q X := h
theorem ops {v i : Expr} {a b : PV} (h : OpS C v i a b ρ σ Q X) : OpS C v i a b ρ σ Q X := h
theorem fn {S : Sx} {fa : Addr} {ro : List Addr} {room : Nat} {ps : List PV} (h : Fn S fa ro room ps σ Q) : Fn S fa ro room ps σ Q := h
end
theorem and {a b : Prop} (h : a ∧ b) : a ∧ b := h
theorem ite {b : Bool} {p q : Prop} (h : if b = true then p else q) : if b = true then p else q := h
end Gd
end SR

set_option hygiene false in
local macro_rules | `(tactic| walk_at "sl") => `(tactic| first | (with_reducible assumption) | (with_reducible apply Sig.set_self) | (rw [Sig.set_ne _ _ (by first | assumption | exact Ne.symm (by assumption))]; walk_at "sl"))
set_option hygiene false in
local macro_rules | `(tactic| walk_at "sk") => `(tactic| (show kdOf _ _ = _; decide +kernel))
set_option hygiene false in
local macro_rules | `(tactic| walk_at "sb") => `(tactic| first | (with_reducible rfl) | decide)
set_option hygiene false in
local macro_rules | `(tactic| walk_at "gx") => `(tactic| first
  | ((fail_if_success (fail_if_success (with_reducible apply Gd.if))); refine Ex.if ?_)
  | ((fail_if_success (fail_if_success (with_reducible apply Gd.ret))); refine Ex.ret ?_)
  | ((fail_if_success (fail_if_success (with_reducible apply Gd.for))); refine Ex.forN ok ?_)
  | ((fail_if_success (fail_if_success (with_reducible apply Gd.expr))); refine Ex.expr ok ?_)
  | ((fail_if_success (fail_if_success (with_reducible apply Gd.setItem))); refine Ex.setItem ok ?_)
  | ((fail_if_success (fail_if_success (with_reducible apply Gd.asT))); refine Ex.assignT ok ?_)
  | ((fail_if_success (fail_if_success (with_reducible apply Gd.asC))); first | refine Ex.assignC ok (by walk_at "sk") hc (by decide +kernel) (by rfl) (by decide +kernel) ?_ | refine Ex.assign ok (.inl (by walk_at "sk")) ?_ | refine Ex.assign ok (.inr ⟨by walk_at "sk", hc _ (by walk_at "sk")⟩) ?_)
  | refine Ex.assign ok (.inl (by walk_at "sk")) ?_
  | refine Ex.assign ok (.inr ⟨by walk_at "sk", hc _ (by walk_at "sk")⟩) ?_
  | refine Ex.assign ok (.inr ⟨by walk_at "sk", hc _ (by walk_at "sk")⟩) ?_ (swaps_cell ok rfl))
set_option hygiene false in
local macro_rules | `(tactic| walk_at "gt") => `(tactic| first
  | ((fail_if_success (fail_if_success (with_reducible apply Gd.tcmp))); refine Te.compare ?_)
  | ((fail_if_success (fail_if_success (with_reducible apply Gd.tnot))); refine Te.not ?_)
  | ((fail_if_success (fail_if_success (with_reducible apply Gd.tor))); first | refine Te.or ?_ | refine Te.or_nil ?_)
  | ((fail_if_success (fail_if_success (with_reducible apply Gd.tand))); first | refine Te.and ?_ | refine Te.and_nil ?_)
  | refine Te.val ?_)
set_option hygiene false in
local macro_rules | `(tactic| walk_at "gm") => `(tactic| first
  | ((fail_if_success (fail_if_success (with_reducible apply Gd.m (Str.ofString "get")))); refine Ev.method ok F.plainAttrs_dict F.slot_dict_get F.type_dict_get ?_)
  | ((fail_if_success (fail_if_success (with_reducible apply Gd.m (Str.ofString "items")))); refine Ev.method ok F.plainAttrs_dict F.slot_dict_items F.type_dict_items ?_)
  | ((fail_if_success (fail_if_success (with_reducible apply Gd.m (Str.ofString "append")))); refine Ev.method ok F.plainAttrs_list F.slot_list_append F.type_list_append ?_)
  | ((fail_if_success (fail_if_success (with_reducible apply Gd.m (Str.ofString "sort")))); refine Ev.method ok F.plainAttrs_list F.slot_list_sort F.type_list_sort ?_)
  | ((fail_if_success (fail_if_success (with_reducible apply Gd.m (Str.ofString "clear")))); refine Ev.method ok F.plainAttrs_dict F.slot_dict_clear F.type_dict_clear ?_)
  | ((fail_if_success (fail_if_success (with_reducible apply Gd.m (Str.ofString "values")))); refine Ev.method ok F.plainAttrs_dict F.slot_dict_values F.type_dict_values ?_)
  | ((fail_if_success (fail_if_success (with_reducible apply Gd.m (Str.ofString "keys")))); refine Ev.method ok F.plainAttrs_dict F.slot_dict_keys F.type_dict_keys ?_)
  | ((fail_if_success (fail_if_success (with_reducible apply Gd.m (Str.ofString "copy")))); refine Ev.method ok F.plainAttrs_dict F.slot_dict_copy F.type_dict_copy ?_)
  | ((fail_if_success (fail_if_success (with_reducible apply Gd.m (Str.ofString "update")))); refine Ev.method ok F.plainAttrs_dict F.slot_dict_update F.type_dict_update ?_)
  | ((fail_if_success (fail_if_success (with_reducible apply Gd.m (Str.ofString "setdefault")))); refine Ev.method ok F.plainAttrs_dict F.slot_dict_setdefault F.type_dict_setdefault ?_)
  | ((fail_if_success (fail_if_success (with_reducible apply Gd.m (Str.ofString "pop")))); first | refine Ev.method ok F.plainAttrs_list F.slot_list_pop F.type_list_pop (Ev.name ok rfl (And.intro (IsT.list (by walk_at "sl")) ?_)) | refine Ev.method ok F.plainAttrs_dict F.slot_dict_pop F.type_dict_pop (Ev.name ok rfl (And.intro (IsT.dict (by walk_at "sl")) ?_))))
set_option hygiene false in
local macro_rules | `(tactic| walk_at "ge") => `(tactic| first
  | ((fail_if_success (fail_if_success (with_reducible apply Gd.name))); first | refine Ev.name ok rfl ?_ | refine Ev.type ok (by walk_at "sk") (Bi.g (by assumption)) (Bi.b (by assumption)) ?_ | refine Ev.global ok (by walk_at "sk") (by assumption) (by assumption) ?_)
  | ((fail_if_success (fail_if_success (with_reducible apply Gd.cst))); first | refine Ev.cint ?_ | refine Ev.cstr ?_ | refine Ev.cnone ?_ | refine Ev.cbool ?_)
  | ((fail_if_success (fail_if_success (with_reducible apply Gd.li))); first | refine Ev.listItems ok (by walk_at "sk") (by assumption) ?_)
  | ((fail_if_success (fail_if_success (with_reducible apply Gd.call))); first | refine Ev.callF ok (by assumption) (by walk_at "sk") ?_ | refine Ev.callB ok (by walk_at "sk") (Bi.g (by assumption)) (Bi.b (by assumption)) ?_ | refine Ev.callT ok (by walk_at "sk") (Bi.g (by assumption)) (Bi.b (by assumption)) ?_)
  | ((fail_if_success (fail_if_success (with_reducible apply Gd.meth))); walk_at "gm")
  | ((fail_if_success (fail_if_success (with_reducible apply Gd.bin))); refine Ev.binop ?_)
  | ((fail_if_success (fail_if_success (with_reducible apply Gd.cmp))); refine Ev.compare ?_)
  | ((fail_if_success (fail_if_success (with_reducible apply Gd.un))); refine Ev.unary ?_)
  | ((fail_if_success (fail_if_success (with_reducible apply Gd.tup))); refine Ev.tuple ?_)
  | ((fail_if_success (fail_if_success (with_reducible apply Gd.lst))); refine Ev.list ?_)
  | ((fail_if_success (fail_if_success (with_reducible apply Gd.dct))); refine Ev.dict0 ok ?_)
  | ((fail_if_success (fail_if_success (with_reducible apply Gd.sub))); first | refine Ev.sliceTo ?_ | refine Ev.sliceFrom ?_ | refine Ev.sub ?_)
  | ((fail_if_success (fail_if_success (with_reducible apply Gd.comp))); refine Ev.listComp ok hc (by decide +kernel) ?_)
  | ((fail_if_success (fail_if_success (with_reducible apply Gd.ife))); refine Ev.ifexp ?_))
set_option hygiene false in
local macro_rules | `(tactic| walk_at "gb") => `(tactic| first
  | refine Op2.add ?_
  | refine Op2.sub ?_
  | refine Op2.mul ?_ (IntMulOk.of_left (by decide))
  | refine Op2.fdiv (by decide) (PyProof.noPylong_small (by decide)) ?_
  | refine Op2.mod (by first | decide | omega) ?_)
set_option hygiene false in
local macro_rules | `(tactic| walk_at "gc") => `(tactic| first
  | refine Op2.lt ?_
  | refine Op2.lts ?_
  | refine Op2.le ?_
  | refine Op2.gt ?_
  | refine Op2.ge ?_
  | refine Op2.eqi ?_
  | refine Op2.nei ?_
  | refine Op2.eqs ?_
  | refine Op2.nes ?_
  | refine Op2.isnone ?_
  | refine Op2.isnotnone ?_
  | refine Op2.isty ?_
  | refine Op2.isnotty ?_
  | refine Op2.nenone ?_)
set_option hygiene false in
local macro_rules | `(tactic| walk_at "gn") => `(tactic| first
  | refine OpN.abs ?_
  | refine OpN.min2 ok ?_
  | refine OpN.max2 ok ?_
  | refine OpN.type_int ?_)
set_option hygiene false in
local macro_rules | `(tactic| walk_at "ga") => `(tactic| first
  | refine And.intro (show List.length _ ≤ 1000 by simp) ?_
  | refine And.intro (show IsT _ _ _ _ from IsT.list (by walk_at "sl")) ?_
  | refine And.intro (show IsT _ _ _ _ from IsT.dict (by walk_at "sl")) ?_
  | refine And.intro (show IsT _ _ _ _ from IsT.idict (by walk_at "sl")) ?_
  | refine And.intro (show PV.isRef _ = false from rfl) ?_)
set_option hygiene false in
local macro_rules | `(tactic| walk_at "sr1") => `(tactic| first
  | ((fail_if_success (fail_if_success (with_reducible apply Gd.exs))); refine Exs.cons ?_)
  | ((fail_if_success (fail_if_success (with_reducible apply Gd.ev))); walk_at "ge")
  | ((fail_if_success (fail_if_success (with_reducible apply Gd.ex))); walk_at "gx")
  | ((fail_if_success (fail_if_success (with_reducible apply Gd.te))); walk_at "gt")
  | ((fail_if_success (fail_if_success (with_reducible apply Gd.tes))); first | refine Te.compare ?_ | refine Te.not ?_ | refine Te.val ?_)
  | ((fail_if_success (fail_if_success (with_reducible apply Gd.evs))); first | refine Evs.cons ?_ | refine Evs.nil ?_)
  | ((fail_if_success (fail_if_success (with_reducible apply Gd.fn))); refine cellF (by first | decide | omega) ?_)
  | ((fail_if_success (fail_if_success (with_reducible apply Gd.opb))); walk_at "gb")
  | ((fail_if_success (fail_if_success (with_reducible apply Gd.opc))); walk_at "gc")
  | ((fail_if_success (fail_if_success (with_reducible apply Gd.opt))); refine OpT.bool ?_)
  | ((fail_if_success (fail_if_success (with_reducible apply Gd.ops))); first | refine OpS.pair0 ?_ | refine OpS.pair1 ?_)
  | ((fail_if_success (fail_if_success (with_reducible apply Gd.opn))); walk_at "gn")
  | ((fail_if_success (fail_if_success (with_reducible apply Gd.opu))); refine Op1.neg ?_)
  | ((fail_if_success (fail_if_success (with_reducible apply Gd.and))); walk_at "ga")
  | ((fail_if_success (fail_if_success (with_reducible apply Gd.ite))); first | refine ifF (by walk_at "sb") ?_ | refine ifT (by walk_at "sb") ?_))
set_option hygiene false in
local macro_rules | `(tactic| walk_at "sr") => `(tactic| repeat (walk_at "sr1"))
set_option hygiene false in
local macro_rules | `(tactic| walk_at "sq") => `(tactic| repeat (first | walk_at "sr1" | refine Exs.nil ?_))
set_option hygiene false in
local macro_rules | `(tactic| walk_at "srange") => `(tactic| refine OpN.range1 fun r hr => ⟨[], _, _, Iterates.range ok (Sig.set_self _ _ _) (by omega) (by omega) (by omega) (by omega), Sub.set hr, by simp, ?_⟩)
set_option hygiene false in
local macro_rules | `(tactic| walk_at "slsub") => `(tactic| (intro y p e; simp only [Loc.bind, List.zip, List.zipWith, Loc.nil, Loc.set] at e; (repeat (split at e; (· (rename_i hq; subst hq; first | (cases e; rfl) | contradiction)))); cases e))
set_option maxRecDepth 100000
set_option linter.unusedVariables false
namespace SR
open PySem
abbrev P07 := PySem.Challenge.pw_pd_stockroom_2_07
variable {S : Sx} {σ : Sig} {ro : List Addr}
theorem cell07 {fa sa : Addr} {ns : List Int} {k : Int} (oS : S.Ok) (hf : FnAt S (Str.ofString "_law_cell") fa (bodyOf (stAt P07 12)) (scopeOf (stAt P07 12)) [Str.ofString "script", Str.ofString "at"])
    (hs : Script S sa ns) (hn : ns.length ≤ 63) (hlen : Bi S "len" (.builtin "len")) (h0 : 0 ≤ k) : Fn S fa ro 1 [.ref sa, .int k] σ (fun p σ' => p = .int (cell ns k) ∧ σ' = σ) := by
  refine Fn.at oS hf ⟨by decide +kernel, by decide +kernel, rfl, rfl, rfl⟩ rfl fun g ok hc => ?_
  obtain ⟨vs, hL, hvs⟩ := hs
  have hl : vs.length = ns.length := by rw [hvs.length, List.length_map]
  dsimp only [stAt, PySem.Challenge.pw_pd_stockroom_2_07, List.getElem?_cons_succ, List.getElem?_cons_zero, bodyOf]
  refine Exs.cons (Ex.if (Te.compare (Ev.name ok rfl (Ev.callB ok rfl hlen.g hlen.b (Evs.cons (Ev.name ok rfl (Evs.nil (OpN.len_base hL hl (by omega) (Op2.lt (OpT.bool ?_))))))))))
  by_cases h : k < ns.length
  · have h' : k.toNat < ns.length := by omega
    rw [if_pos (by simpa using h)]
    refine Exs.cons (Ex.ret (Ev.sub (Ev.name ok rfl (Ev.name ok rfl (OpS.base hL hvs h0 (by omega) (p := .int (cell ns k)) ?_ ⟨rfl, rfl⟩)))))
    simp [cell, h']
  · have h' : ¬ k.toNat < ns.length := by omega
    rw [if_neg (by simpa using h)]
    refine Exs.nil (Exs.cons (Ex.ret (Ev.cint ⟨?_, rfl⟩)))
    simp [retv, cell, h']
theorem recv07 {fa d : Addr} {k : Str} {n : Int} {l : List (Str × Int)} (oS : S.Ok) (hf : FnAt S (Str.ofString "receive") fa (bodyOf (stAt P07 1)) (scopeOf (stAt P07 1)) [Str.ofString "stock", Str.ofString "item", Str.ofString "n"])
    (hd : σ d = some (.dict (sd l))) (hro : d ∉ ro) (hsz : l.length ≤ 900) : Fn S fa ro 1 [.ref d, .str k, .int n] σ (fun p σ' => p = .none ∧ σ' = σ.set d (.dict (sd (sRecv l k n)))) := by
  refine Fn.at oS hf ⟨by decide +kernel, by decide +kernel, rfl, rfl, rfl⟩ rfl fun g ok hc => ?_
  dsimp only [stAt, PySem.Challenge.pw_pd_stockroom_2_07, List.getElem?_cons_succ, List.getElem?_cons_zero, bodyOf]
  refine Exs.cons (Ex.setItem ok (Ev.binop (Ev.method ok F.plainAttrs_dict F.slot_dict_get F.type_dict_get (Ev.name ok rfl ⟨IsT.dict hd, Evs.cons (Ev.name ok rfl (Evs.cons (Ev.cint (Evs.nil (OpN.sget hd ?_)))))⟩))))
  refine Ev.name ok rfl (Op2.add (Ev.name ok rfl (Ev.name ok rfl ⟨d, sd l, k, rfl, rfl, hd, hro, by rw [sd_length]; omega, Exs.nil ⟨rfl, ?_⟩⟩)))
  rw [sd_set]; rfl
theorem cnt07 {fa d : Addr} {k : Str} {l : List (Str × Int)} (oS : S.Ok) (hf : FnAt S (Str.ofString "count_of") fa (bodyOf (stAt P07 3)) (scopeOf (stAt P07 3)) [Str.ofString "stock", Str.ofString "item"])
    (hd : σ d = some (.dict (sd l))) : Fn S fa ro 1 [.ref d, .str k] σ (fun p σ' => p = .int ((sGet l k).getD 0) ∧ σ' = σ) := by
  refine Fn.at oS hf ⟨by decide +kernel, by decide +kernel, rfl, rfl, rfl⟩ rfl fun g ok hc => ?_
  dsimp only [stAt, PySem.Challenge.pw_pd_stockroom_2_07, List.getElem?_cons_succ, List.getElem?_cons_zero, bodyOf]
  exact Exs.cons (Ex.ret (Ev.method ok F.plainAttrs_dict F.slot_dict_get F.type_dict_get (Ev.name ok rfl ⟨IsT.dict hd, Evs.cons (Ev.name ok rfl (Evs.cons (Ev.cint (Evs.nil (OpN.sget hd ⟨rfl, rfl⟩)))))⟩)))
theorem laid07 {fa d : Addr} {kvs : List (Str × PV)} {Q : PV → Sig → Prop} (oS : S.Ok) (hf : FnAt S (Str.ofString "as_laid") fa (bodyOf (stAt P07 5)) (scopeOf (stAt P07 5)) [Str.ofString "stock"]) (hlist : Bi S "list" (.type "list"))
    (hd : σ d = some (.dict kvs)) (hsz : kvs.length ≤ 900) (h : ∀ b, σ b = none → Q (.ref b) (σ.set b (.list (pairs .str kvs)))) : Fn S fa ro 1 [.ref d] σ Q := by
  refine Fn.at oS hf ⟨by decide +kernel, by decide +kernel, rfl, rfl, rfl⟩ rfl fun g ok hc => ?_
  dsimp only [stAt, PySem.Challenge.pw_pd_stockroom_2_07, List.getElem?_cons_succ, List.getElem?_cons_zero, bodyOf]
  exact Exs.cons (Ex.ret (Ev.listItems ok rfl hlist (Ev.name ok rfl ⟨d, kvs, rfl, hd, by omega, fun b hb => h b hb⟩)))
theorem tot07 {fa d : Addr} {l : List (Str × Int)} (oS : S.Ok) (hf : FnAt S (Str.ofString "total") fa (bodyOf (stAt P07 6)) (scopeOf (stAt P07 6)) [Str.ofString "stock"]) (hsum : Bi S "sum" (.builtin "sum"))
    (hd : σ d = some (.dict (sd l))) : Fn S fa ro 1 [.ref d] σ (fun p σ' => p = .int (l.map (·.2)).sum ∧ σ' = σ) := by
  refine Fn.weaken ?_
  refine Fn.at oS hf ⟨by decide +kernel, by decide +kernel, rfl, rfl, rfl⟩ rfl fun g ok hc => ?_
  dsimp only [stAt, PySem.Challenge.pw_pd_stockroom_2_07, List.getElem?_cons_succ, List.getElem?_cons_zero, bodyOf]
  refine Exs.cons (Ex.ret (Ev.callB ok rfl hsum.g hsum.b (Evs.cons (Ev.method ok F.plainAttrs_dict F.slot_dict_values F.type_dict_values (Ev.name ok rfl ⟨IsT.dict hd, Evs.nil (OpN.values hd fun a ha => Evs.nil (OpN.sum_vals (l := l) ok (Sig.set_self _ _ _) ?_ ?_))⟩)))))
  · rw [Sig.set_ne _ _ (fresh_ne ha hd)]; exact hd
  · exact ⟨σ, Sub.set ha, rfl, rfl⟩
theorem empt07 {fa d : Addr} {kvs : List (Str × PV)} (oS : S.Ok) (hf : FnAt S (Str.ofString "emptied") fa (bodyOf (stAt P07 7)) (scopeOf (stAt P07 7)) [Str.ofString "stock"]) (hlen : Bi S "len" (.builtin "len"))
    (hd : σ d = some (.dict kvs)) (hro : d ∉ ro) (hsz : kvs.length ≤ 900) : Fn S fa ro 1 [.ref d] σ (fun p σ' => p = .int kvs.length ∧ σ' = σ.set d (.dict [])) := by
  refine Fn.at oS hf ⟨by decide +kernel, by decide +kernel, rfl, rfl, rfl⟩ rfl fun g ok hc => ?_
  dsimp only [stAt, PySem.Challenge.pw_pd_stockroom_2_07, List.getElem?_cons_succ, List.getElem?_cons_zero, bodyOf]
  refine Exs.cons (Ex.assign ok (.inl rfl) (Ev.callB ok rfl hlen.g hlen.b (Evs.cons (Ev.name ok rfl (Evs.nil (OpN.len_dict hd (by omega) ?_))))))
  refine Exs.cons (Ex.expr ok (Ev.method ok F.plainAttrs_dict F.slot_dict_clear F.type_dict_clear (Ev.name ok rfl ⟨IsT.dict hd, Evs.nil (OpN.clear ok hd hro (by omega) ⟨rfl, ?_⟩)⟩)))
  exact Exs.cons (Ex.ret (Ev.name ok rfl ⟨rfl, rfl⟩))

/-- ship, which may refuse -/
theorem ship07 {fa d : Addr} {k : Str} {n : Int} {l : List (Str × Int)} {Q : PV → Sig → Prop} {X : String → Sig → Prop} (oS : S.Ok) (hf : FnAt S (Str.ofString "ship") fa (bodyOf (stAt P07 2)) (scopeOf (stAt P07 2)) [Str.ofString "stock", Str.ofString "item", Str.ofString "n"])
    (hke : Bi S "KeyError" (.type "KeyError")) (hve : Bi S "ValueError" (.type "ValueError")) (hd : σ d = some (.dict (sd l))) (hro : d ∉ ro) (hsz : l.length ≤ 900)
    (h0 : sGet l k = none → X "KeyError" σ) (h1 : ∀ v, sGet l k = some v → v < n → X "ValueError" σ) (h2 : ∀ v, sGet l k = some v → n ≤ v → Q .none (σ.set d (.dict (sd (sShip l k n))))) : FnE S fa ro 1 [.ref d, .str k, .int n] σ Q X := by
  have cellF : True := trivial
  refine FnE.at oS hf ⟨by decide +kernel, by decide +kernel, rfl, rfl, rfl⟩ rfl fun g ok hc => ?_
  dsimp only [stAt, PySem.Challenge.pw_pd_stockroom_2_07, List.getElem?_cons_succ, List.getElem?_cons_zero, bodyOf]
  walk_at "sr"
  refine Op2.notin_dict hd (OpT.bool ?_)
  cases hv : sGet l k with
  | none =>
    refine ifT (by rw [sd_get, hv]; rfl) ?_
    exact Exs.cons (Ex.raiseK PyProof.Rows.excClass_KeyError ok rfl hke.g hke.b (Evs.cons (Ev.name ok rfl (Evs.nil ⟨by simp, h0 hv⟩))))
  | some v =>
    refine ifF (by rw [sd_get, hv]; rfl) (Exs.nil ?_)
    walk_at "sr"
    refine OpS.sdict hd hv ?_
    walk_at "sr"
    by_cases hvn : v < n
    · refine ifT (by simpa using hvn) ?_
      exact Exs.cons (Ex.raiseK PyProof.Rows.excClass_ValueError ok rfl hve.g hve.b (Evs.cons (Ev.cstr (Evs.nil ⟨by simp, h1 v hv hvn⟩))))
    · refine ifF (by simpa using hvn) (Exs.nil ?_)
      have hq := h2 v hv (by omega)
      walk_at "sr"
      refine OpS.sdict hd hv ?_
      walk_at "sr"
      refine ⟨d, sd l, k, rfl, rfl, hd, hro, by rw [sd_length]; omega, ?_⟩
      rw [sd_set]
      have hg := sGet_sSet_self l k (v - n)
      walk_at "sr"
      refine OpS.sdict (Sig.set_self _ _ _) hg ?_
      walk_at "sr"
      have hsh : sShip l k n = if v - n = 0 then sDel l k else sSet l k (v - n) := by unfold sShip; rw [hv]; rfl
      by_cases h0 : v - n = 0
      · rw [if_pos (by simpa using h0)]
        walk_at "sr"
        refine OpN.pop ok (Sig.set_self _ _ _) hro (by rw [sd_length]; exact Nat.le_trans (sSet_length_le _ _ _) (by omega)) (p := .int (v - n)) (by rw [sd_get, hg]; rfl) ⟨rfl, ?_⟩
        rw [sd_del, sDel_sSet, Sig.set_set]
        refine Exs.nil (Exs.nil ?_)
        rw [hsh, if_pos h0] at hq; exact hq
      · rw [if_neg (by simpa using h0)]
        refine Exs.nil (Exs.nil ?_)
        rw [hsh, if_neg h0] at hq; exact hq

/-- take_last -/
theorem take07 {fa d : Addr} {kvs : List (Str × PV)} {Q : PV → Sig → Prop} {X : String → Sig → Prop} (oS : S.Ok) (hf : FnAt S (Str.ofString "take_last") fa (bodyOf (stAt P07 8)) (scopeOf (stAt P07 8)) [Str.ofString "stock"])
    (hd : σ d = some (.dict kvs)) (hro : d ∉ ro) (hsz : kvs.length ≤ 900) (h0 : kvs = [] → X "KeyError" σ) (h1 : ∀ ini k p, kvs = ini ++ [(k, p)] → Q (.tup [.str k, p]) (σ.set d (.dict ini))) : FnE S fa ro 1 [.ref d] σ Q X := by
  refine FnE.at oS hf ⟨by decide +kernel, by decide +kernel, rfl, rfl, rfl⟩ rfl fun g ok hc => ?_
  dsimp only [stAt, PySem.Challenge.pw_pd_stockroom_2_07, List.getElem?_cons_succ, List.getElem?_cons_zero, bodyOf]
  exact Exs.cons (Ex.ret (Ev.method ok F.plainAttrs_dict F.slot_dict_popitem F.type_dict_popitem (Ev.name ok rfl ⟨IsT.dict hd, Evs.nil (OpN.popitem ok hd hro (by omega) h0 h1)⟩)))

theorem listed07 {fa d : Addr} {l : List (Str × Int)} {Q : PV → Sig → Prop} (oS : S.Ok) (hf : FnAt S (Str.ofString "listed") fa (bodyOf (stAt P07 4)) (scopeOf (stAt P07 4)) [Str.ofString "stock"])
    (hlist : Bi S "list" (.type "list")) (hro : ∀ a ∈ ro, (σ a).isSome = true) (hd : σ d = some (.dict (sd l))) (hsz : l.length < 64)
    (h : ∀ b, ∀ ys : List Str, σ b = none → ys.Perm (l.map (·.1)) → ys.Pairwise sLe → Q (.ref b) (σ.set b (.list (rows (ys.map fun k => (k, (sGet l k).getD 0)))))) : Fn S fa ro 1 [.ref d] σ Q := by
  have cellF : True := trivial
  refine Fn.weaken ?_
  refine Fn.at oS hf ⟨by decide +kernel, by decide +kernel, rfl, rfl, rfl⟩ rfl fun g ok hc => ?_
  dsimp only [stAt, PySem.Challenge.pw_pd_stockroom_2_07, List.getElem?_cons_succ, List.getElem?_cons_zero, bodyOf]
  walk_at "sr"
  refine OpN.keys hd fun kv hkv => ?_
  have hdk := fresh_ne hkv hd
  walk_at "sr"
  refine OpN.list_keys ok (Sig.set_self _ _ _) (by walk_at "sl") (by rw [sd_length]; omega) fun nl hnl => ?_
  have hkn := fresh_ne hnl (Sig.set_self _ _ _)
  have hdn : d ≠ nl := fresh_ne hnl (by walk_at "sl")
  have hnl0 : σ nl = none := by rw [Sig.set_ne _ _ (Ne.symm hkn)] at hnl; exact hnl
  have e1 : ((sd l).map fun kv => PV.str kv.1) = (l.map (·.1)).map .str := by simp [sd]
  rw [e1]
  walk_at "sr"
  refine OpN.sort ok (Sig.set_self _ _ _) (not_ro hro hnl0) (by rw [List.length_map]; exact hsz) fun ys hp hs => ⟨rfl, ?_⟩
  rw [Sig.set_set]
  walk_at "sr"
  refine ⟨[nl], _, Iterates.list ok (Sig.set_self _ _ _), by simp [Sig.set_self], by rw [List.length_map, hp.length_eq, List.length_map]; omega, fun g' ok' => ?_⟩
  refine CompL.pure (fun _ => true) (fun p => match p with | .str k => row (k, (sGet l k).getD 0) | p => p) _ _ ?_ ?_
  · intro p hp'
    obtain ⟨k, hk, rfl⟩ := List.mem_map.mp hp'
    have ok := ok'
    refine ⟨_, ⟨.inl rfl, rfl⟩, LSub.set rfl (LSub.refl _), ⟨rfl, rfl⟩, fun _ => ?_⟩
    walk_at "sq"
    have hk' : (sGet l k).isSome = true := by rw [sGet_isSome]; simpa using hp.mem_iff.mp hk
    obtain ⟨i, hi⟩ := Option.isSome_iff_exists.mp hk'
    refine OpS.sdict (l := l) (by walk_at "sl") hi ?_
    walk_at "sq"
    exact ⟨by simp [row, hi], rfl⟩
  rw [List.filter_eq_self.mpr fun _ _ => rfl, List.nil_append, List.map_map]
  intro a ha
  have hna := fresh_ne ha (Sig.set_self _ _ _)
  have hka : kv ≠ a := fresh_ne ha (by walk_at "sl")
  have ha0 : σ a = none := by rw [Sig.set_ne _ _ (Ne.symm hna), Sig.set_ne _ _ (Ne.symm hka)] at ha; exact ha
  refine ⟨σ.set a (.list (rows (ys.map fun k => (k, (sGet l k).getD 0)))), ?_, h a ys ha0 hp hs⟩
  have e2 : ((fun p => match p with | .str k => row (k, (sGet l k).getD 0) | p => p) ∘ PV.str) = row ∘ fun k => (k, (sGet l k).getD 0) := rfl
  rw [e2, rows, List.map_map]
  exact Sub.set_both (Sub.trans (Sub.set hkv) (Sub.set hnl))

def namesOf (l : List (Str × Int)) (c : Int) : List PV := (l.filter fun x => decide (x.2 = c)).map fun x => .str x.1
def cnts (l : List (Str × Int)) : List Int := l.foldl (fun m x => if x.2 ∈ m then m else m ++ [x.2]) []
theorem cnts_snoc (l : List (Str × Int)) (x : Str × Int) : cnts (l ++ [x]) = if x.2 ∈ cnts l then cnts l else cnts l ++ [x.2] := by unfold cnts; rw [List.foldl_append]; rfl
theorem namesOf_snoc (l : List (Str × Int)) (x : Str × Int) (c : Int) : namesOf (l ++ [x]) c = namesOf l c ++ if x.2 = c then [.str x.1] else [] := by
  unfold namesOf
  rw [List.filter_append, List.map_append]
  by_cases h : x.2 = c <;> simp [h]
theorem namesOf_length (l : List (Str × Int)) (c : Int) : (namesOf l c).length ≤ l.length := by unfold namesOf; rw [List.length_map]; exact List.length_filter_le _ _
theorem namesOf_pure (l : List (Str × Int)) (c : Int) : pureL 0 (namesOf l c) = true := pureL_all fun p hp => by
  obtain ⟨x, _, rfl⟩ := List.mem_map.mp hp
  simp [pureP]
theorem mem_cnts (l : List (Str × Int)) (c : Int) : c ∈ cnts l ↔ c ∈ l.map (·.2) := by
  have key : ∀ (l : List (Str × Int)) (m : List Int), c ∈ l.foldl (fun m x => if x.2 ∈ m then m else m ++ [x.2]) m ↔ c ∈ m ∨ c ∈ l.map (·.2) := by
    intro l
    induction l with
    | nil => intro m; simp
    | cons x l ih =>
      intro m
      rw [List.foldl_cons, ih]
      by_cases h : x.2 ∈ m
      · rw [if_pos h]
        constructor
        · rintro (h1 | h1)
          · exact .inl h1
          · exact .inr (List.mem_cons_of_mem _ h1)
        · rintro (h1 | h1)
          · exact .inl h1
          · rcases List.mem_cons.mp h1 with rfl | h1
            · exact .inl h
            · exact .inr h1
      · rw [if_neg h]; simp; constructor
        · rintro ((h1 | h1) | h1)
          · exact .inl h1
          · exact .inr (.inl h1)
          · exact .inr (.inr h1)
        · rintro (h1 | h1 | h1)
          · exact .inl (.inl h1)
          · exact .inl (.inr h1)
          · exact .inr h1
  exact (key l []).trans ⟨fun h => h.resolve_left (by simp), .inr⟩
theorem namesOf_none {l : List (Str × Int)} {c : Int} (h : c ∉ cnts l) : namesOf l c = [] := by
  unfold namesOf
  rw [List.map_eq_nil_iff, List.filter_eq_nil_iff]
  intro x hx e
  exact h ((mem_cnts l c).mpr (List.mem_map.mpr ⟨x, hx, of_decide_eq_true e⟩))

theorem cnts_nodup (l : List (Str × Int)) : (cnts l).Nodup := by
  have key : ∀ (l : List (Str × Int)) (m : List Int), m.Nodup → (l.foldl (fun m x => if x.2 ∈ m then m else m ++ [x.2]) m).Nodup := by
    intro l
    induction l with
    | nil => intro m h; exact h
    | cons x l ih =>
      intro m h
      rw [List.foldl_cons]
      apply ih
      by_cases hx : x.2 ∈ m
      · rw [if_pos hx]; exact h
      · rw [if_neg hx]
        exact List.nodup_append.mpr ⟨h, by simp, fun a ha b hb e => by simp at hb; subst hb; subst e; exact hx ha⟩
  exact key l [] (by simp)
theorem inj_map {α β : Type} {f : α → β} : ∀ {l : List α}, (l.map f).Nodup → ∀ {x y : α}, x ∈ l → y ∈ l → f x = f y → x = y
  | [], _, _, _, h, _, _ => by cases h
  | a :: l, hn, x, y, hx, hy, e => by
    have hn' := List.nodup_cons.mp hn
    rcases List.mem_cons.mp hx with ex | hx'
    · rcases List.mem_cons.mp hy with ey | hy'
      · rw [ex, ey]
      · exact (hn'.1 (List.mem_map.mpr ⟨y, hy', by rw [← e, ex]⟩)).elim
    · rcases List.mem_cons.mp hy with ey | hy'
      · exact (hn'.1 (List.mem_map.mpr ⟨x, hx', by rw [e, ey]⟩)).elim
      · exact inj_map hn'.2 hx' hy' e
/-- the lists of a turned stock -/
structure Turned (σ : Sig) (f : Int → List PV) (T : List (Int × Addr)) : Prop where
  at' : ∀ x ∈ T, σ x.2 = some (.list (f x.1))
  nd : (T.map (·.2)).Nodup
def tEnt (T : List (Int × Addr)) : List (Int × PV) := T.map fun x => (x.1, .ref x.2)
theorem tEnt_get {T : List (Int × Addr)} {c : Int} : (dGet (tEnt T) c = none ∧ c ∉ T.map (·.1)) ∨ ∃ a, dGet (tEnt T) c = some (.ref a) ∧ (c, a) ∈ T := by
  induction T with
  | nil => exact .inl ⟨rfl, by simp⟩
  | cons x T ih =>
    by_cases h : x.1 = c
    · exact .inr ⟨x.2, by simp [dGet, tEnt, h], by rw [← h]; exact List.mem_cons_self⟩
    · rcases ih with ⟨h1, h2⟩ | ⟨a, h1, h2⟩
      · refine .inl ⟨by simpa [dGet, tEnt, h] using h1, ?_⟩
        rw [List.map_cons]
        intro hm
        rcases List.mem_cons.mp hm with e | e
        · exact h e.symm
        · exact h2 e
      · exact .inr ⟨a, by simpa [dGet, tEnt, h] using h1, List.mem_cons_of_mem _ h2⟩
theorem tEnt_new {T : List (Int × Addr)} {c : Int} {a : Addr} (h : c ∉ T.map (·.1)) : dSet (tEnt T) c (.ref a) = tEnt (T ++ [(c, a)]) := by
  unfold dSet
  rw [if_neg]
  · simp [tEnt]
  · rw [List.any_eq_true]
    rintro ⟨x, hx, e⟩
    obtain ⟨y, hy, rfl⟩ := List.mem_map.mp hx
    exact h (List.mem_map.mpr ⟨y, hy, of_decide_eq_true e⟩)

set_option maxHeartbeats 1000000 in
theorem by07 {fa d : Addr} {l : List (Str × Int)} {Q : PV → Sig → Prop} (oS : S.Ok) (hf : FnAt S (Str.ofString "by_count") fa (bodyOf (stAt P07 9)) (scopeOf (stAt P07 9)) [Str.ofString "stock"])
    (hd : σ d = some (.dict (sd l))) (hsz : l.length ≤ 100)
    (h : ∀ (t : Addr) (T : List (Int × Addr)) (σ' : Sig), Sub σ σ' → T.map (·.1) = cnts l → σ' t = some (.idict (tEnt T)) → Turned σ' (namesOf l) T → Q (.ref t) σ') : Fn S fa [] 1 [.ref d] σ Q := by
  have cellF : True := trivial
  refine Fn.at oS hf ⟨by decide +kernel, by decide +kernel, rfl, rfl, rfl⟩ rfl fun g ok hc => ?_
  dsimp only [stAt, PySem.Challenge.pw_pd_stockroom_2_07, List.getElem?_cons_succ, List.getElem?_cons_zero, bodyOf]
  refine Exs.cons (Ex.assign ok (.inl rfl) (Ev.idict0 ok fun t ht => ?_))
  have hdt := fresh_ne ht hd
  walk_at "sr"
  refine OpN.items (kvs := sd l) (by walk_at "sl") fun v hv => ?_
  have hdv : d ≠ v := fresh_ne hv (by walk_at "sl")
  refine ⟨[d], _, σ.set t (.idict []), Iterates.items ok (Sig.set_self _ _ _) (kvs := sd l) (by walk_at "sl"), Sub.set hv, by simp [Sig.set_ne _ _ hdt, hd], ?_⟩
  rw [sd_pairs]
  refine ForL.inv _ _ _ (fun i ρ' σ' => ρ' = _ ∧ ∃ T : List (Int × Addr), Sub σ σ' ∧ T.map (·.1) = cnts (l.take i) ∧ σ' t = some (.idict (tEnt T)) ∧ Turned σ' (namesOf (l.take i)) T ∧ (∀ x ∈ T, σ x.2 = none) ∧ T.length ≤ i) ⟨rfl, [], Sub.set ht, rfl, Sig.set_self _ _ _, ⟨by simp, by simp⟩, by simp, Nat.le_refl _⟩ ?_ ?_
  · rintro i p ρ' σ' hp ⟨rfl, T, hsub, hkeys, hT, hTu, hfr, hTl⟩
    obtain ⟨x, hx, rfl⟩ := rows_get hp
    have hi := lt_of_get hx
    refine ⟨_, ⟨_, rfl, .inl rfl, .inl rfl, rfl⟩, ?_⟩
    have ok := okRo ok ([d] ++ [])
    walk_at "sr"
    intro e he
    have hte : t ≠ e := fresh_ne he hT
    have htd : t ≠ d := fun q => by subst q; have := hsub t _ hd; rw [hT] at this; cases this
    have hkn : (T.map (·.1)).Nodup := by rw [hkeys]; exact cnts_nodup _
    have he0 : σ e = none := by
      cases q : σ e with
      | none => rfl
      | some o => have := hsub e o q; rw [he] at this; cases this
    have hnames := namesOf_length (l.take i)
    rw [List.length_take] at hnames
    walk_at "sr"
    refine OpN.isetdefault ok (kvs := tEnt T) (by walk_at "sl") (by simpa [mkC] using htd) (by simp [tEnt]; omega) (fun q hq => ?_) fun hno => ?_
    · rcases tEnt_get (T := T) (c := x.2) with ⟨h1, _⟩ | ⟨a, h1, h2⟩
      · rw [h1] at hq; cases hq
      · rw [h1] at hq; cases hq
        have hA : σ' a = some (.list (namesOf (l.take i) x.2)) := hTu.at' _ h2
        have hae := fresh_ne he hA
        have hta : t ≠ a := fun q => by subst q; rw [hT] at hA; cases hA
        have had : a ≠ d := fun q => by subst q; have := hfr _ h2; rw [hd] at this; cases this
        have hin : x.2 ∈ cnts (l.take i) := by rw [← hkeys]; exact List.mem_map.mpr ⟨_, h2, rfl⟩
        refine ⟨IsT.list (ps := namesOf (l.take i) x.2) (by walk_at "sl"), ?_⟩
        walk_at "sr"
        refine OpN.append ok (by walk_at "sl") (by simpa [mkC] using had) (by have := hnames x.2; omega) ⟨rfl, ?_⟩
        refine Exs.nil ⟨_, σ'.set a (.list (namesOf (l.take i) x.2 ++ [.str x.1])), LSub.set rfl (LSub.set rfl (LSub.refl _)), Sub.set_both (Sub.set he), rfl, T, ?_, ?_, ?_, ⟨?_, hTu.nd⟩, hfr, by omega⟩
        · intro b o hb
          have : b ≠ a := fun q => by subst q; have := hfr _ h2; rw [hb] at this; cases this
          rw [Sig.set_ne _ _ this]; exact hsub b o hb
        · rw [take_snoc hx, cnts_snoc, if_pos hin]; exact hkeys
        · rw [Sig.set_ne _ _ hta]; exact hT
        · intro y hy
          rw [take_snoc hx, namesOf_snoc]
          by_cases hya : y.2 = a
          · have : y = (x.2, a) := inj_map hTu.nd hy h2 hya
            subst this
            rw [Sig.set_self, if_pos rfl]
          · have : ¬ x.2 = y.1 := fun q => hya (by have := inj_map hkn hy h2 q.symm; rw [this])
            rw [Sig.set_ne _ _ hya, if_neg this, List.append_nil]; exact hTu.at' y hy
    · rcases tEnt_get (T := T) (c := x.2) with ⟨_, h2⟩ | ⟨a, h1, _⟩
      · rw [tEnt_new h2]
        have hnin : x.2 ∉ cnts (l.take i) := by rw [← hkeys]; exact h2
        refine ⟨IsT.list (ps := []) (by rw [Sig.set_ne _ _ (Ne.symm hte)]; exact Sig.set_self _ _ _), ?_⟩
        walk_at "sr"
        have hed : e ≠ d := fun q => by subst q; rw [hd] at he0; cases he0
        refine OpN.append ok (ps := []) (by rw [Sig.set_ne _ _ (Ne.symm hte)]; exact Sig.set_self _ _ _) (by simpa [mkC] using hed) (by simp) ⟨rfl, ?_⟩
        refine Exs.nil ⟨_, _, LSub.set rfl (LSub.set rfl (LSub.refl _)), Sub.refl _, rfl, T ++ [(x.2, e)], ?_, ?_, ?_, ⟨?_, ?_⟩, ?_, by simp; omega⟩
        · intro b o hb
          have h1 : b ≠ e := fun q => by subst q; rw [hb] at he0; cases he0
          have h3 : b ≠ t := fun q => by subst q; rw [hb] at ht; cases ht
          rw [Sig.set_ne _ _ h1, Sig.set_ne _ _ h3, Sig.set_ne _ _ h1]; exact hsub b o hb
        · rw [take_snoc hx, cnts_snoc, if_neg hnin, List.map_append, hkeys]; rfl
        · rw [Sig.set_ne _ _ hte, Sig.set_self]
        · intro y hy
          rw [take_snoc hx, namesOf_snoc]
          rcases List.mem_append.mp hy with hy | hy
          · have hye : y.2 ≠ e := fresh_ne he (hTu.at' y hy)
            have hyt : y.2 ≠ t := fun q => by have := hTu.at' y hy; rw [q, hT] at this; cases this
            have : ¬ x.2 = y.1 := fun q => h2 (List.mem_map.mpr ⟨y, hy, q.symm⟩)
            rw [Sig.set_ne _ _ hye, Sig.set_ne _ _ hyt, Sig.set_ne _ _ hye, if_neg this, List.append_nil]; exact hTu.at' y hy
          · obtain rfl := List.mem_singleton.mp hy
            rw [Sig.set_self, namesOf_none hnin, if_pos rfl]
        · rw [List.map_append]
          refine List.nodup_append.mpr ⟨hTu.nd, by simp, fun a ha b hb q => ?_⟩
          obtain ⟨y, hy, rfl⟩ := List.mem_map.mp ha
          simp at hb; subst hb
          exact fresh_ne he (hTu.at' y hy) q
        · intro y hy
          rcases List.mem_append.mp hy with hy | hy
          · exact hfr y hy
          · obtain rfl := List.mem_singleton.mp hy; exact he0
      · rw [h1] at hno; cases hno
  · rintro ρ' σ' ⟨rfl, T, hsub, hkeys, hT, hTu, hfr, hTl⟩
    rw [rows_length, List.take_length] at hkeys hTu
    walk_at "sr"
    exact h t T σ' hsub hkeys hT hTu

def tRow (x : Int × Addr) : PV := .tup [.int x.1, .ref x.2]
theorem tEnt_pairs (T : List (Int × Addr)) : pairs PV.int (tEnt T) = T.map tRow := by simp [pairs, tEnt, tRow, Function.comp_def]
theorem eqTurned {f : Int → List PV} (hp : ∀ c, pureL 0 (f c) = true) : ∀ {T T' : List (Int × Addr)}, T.map (·.1) = T'.map (·.1) → (∀ x ∈ T, σ x.2 = some (.list (f x.1))) → (∀ x ∈ T', σ x.2 = some (.list (f x.1))) → EqRL σ 2 (T.map tRow) (T'.map tRow)
  | [], [], _, _, _ => .nil _
  | [], _ :: _, h, _, _ => by cases h
  | _ :: _, [], h, _, _ => by cases h
  | x :: T, y :: T', h, h1, h2 => by
    rw [List.map_cons, List.map_cons] at h
    obtain ⟨e, e'⟩ := List.cons.inj h
    refine .cons (.tup (.cons ?_ (.cons ?_ (.nil _)))) (eqTurned hp e' (fun z hz => h1 z (List.mem_cons_of_mem _ hz)) fun z hz => h2 z (List.mem_cons_of_mem _ hz))
    · rw [e]; exact .int _ _
    · exact EqR.lists (h1 x List.mem_cons_self) (by rw [e]; exact h2 y List.mem_cons_self) (hp _)
theorem cnts_length (l : List (Str × Int)) : (cnts l).length ≤ l.length := by
  have key : ∀ (l : List (Str × Int)) (m : List Int), (l.foldl (fun m x => if x.2 ∈ m then m else m ++ [x.2]) m).length ≤ m.length + l.length := by
    intro l
    induction l with
    | nil => intro m; exact Nat.le_refl _
    | cons x l ih =>
      intro m
      rw [List.foldl_cons]
      refine Nat.le_trans (ih _) ?_
      split <;> simp <;> omega
  have := key l []
  rw [List.length_nil, Nat.zero_add] at this
  exact this
end SR

set_option maxRecDepth 100000
set_option linter.unusedVariables false
namespace SR
open PySem
variable {S : Sx} {σ : Sig} {ro : List Addr}

theorem have07 {fa w : Addr} {k : Str} {P : List (Str × Int)} (oS : S.Ok) (hf : FnAt S (Str.ofString "_law_have") fa (bodyOf (stAt P07 13)) (scopeOf (stAt P07 13)) [Str.ofString "entries", Str.ofString "item"])
    (hw : σ w = some (.list (rows P))) : Fn S fa ro 1 [.ref w, .str k] σ (fun p σ' => p = .int ((sGet P k).getD 0) ∧ σ' = σ) := by
  have cellF : True := trivial
  refine Fn.at oS hf ⟨by decide +kernel, by decide +kernel, rfl, rfl, rfl⟩ rfl fun g ok hc => ?_
  dsimp only [stAt, PySem.Challenge.pw_pd_stockroom_2_07, List.getElem?_cons_succ, List.getElem?_cons_zero, bodyOf]
  walk_at "sr"
  refine ⟨[w], rows P, _, Iterates.list ok hw, Sub.refl _, by simp [hw], ?_⟩
  refine ForL.inv _ _ _ (fun i ρ' σ' => ρ' = _ ∧ σ' = σ ∧ sGet (P.take i) k = none) ⟨rfl, rfl, rfl⟩ ?_ ?_
  · rintro i p ρ' σ' hp ⟨rfl, rfl, hno⟩
    obtain ⟨x, hx, rfl⟩ := rows_get hp
    refine ⟨_, ⟨.inl rfl, rfl⟩, ?_⟩
    have ok := okRo ok ([w] ++ ro)
    have hsplit : P = P.take (i + 1) ++ P.drop (i + 1) := (List.take_append_drop _ _).symm
    walk_at "sr"
    by_cases hx1 : x.1 = k
    · rw [if_pos (by simpa using hx1)]
      walk_at "sr"
      refine ⟨?_, rfl⟩
      rw [hsplit, take_snoc hx, sGet_append, sGet_append, hno, sGet_cons, if_pos hx1]; rfl
    · rw [if_neg (by simpa using hx1)]
      refine Exs.nil (Exs.nil ⟨_, _, LSub.set rfl (LSub.refl _), Sub.refl _, rfl, rfl, ?_⟩)
      rw [take_snoc hx, sGet_append, hno, sGet_cons, if_neg hx1]; rfl
  · rintro ρ' σ' ⟨rfl, rfl, hno⟩
    rw [rows_length, List.take_length] at hno
    walk_at "sr"
    exact ⟨by rw [hno]; rfl, rfl⟩

def chg (l : List (Str × Int)) (k : Str) (m : Int) : List (Str × Int) := (l.map fun x => if x.1 = k then (x.1, x.2 + m) else x).filter fun x => decide (x.2 > 0)
theorem chg_recv {l : List (Str × Int)} {k : Str} {n v : Int} (hl : (l.map (·.1)).Nodup) (hp : Pos1 l) (hv : sGet l k = some v) (hn : 1 ≤ n) : chg l k n = sRecv l k n := by
  unfold chg sRecv
  rw [hv, Option.getD_some]
  have e1 : (l.map fun x => if x.1 = k then (x.1, x.2 + n) else x) = sSet l k (v + n) := by
    unfold sSet
    rw [if_pos (List.any_eq_true.mpr ⟨(k, v), sGet_some_mem hv, by simp⟩)]
    refine List.map_congr_left fun x hx => ?_
    by_cases e : x.1 = k
    · have : x.2 = v := by have := sGet_mem hl hx; rw [e, hv] at this; cases this; rfl
      rw [if_pos e, if_pos e, this]
    · rw [if_neg e, if_neg e]
  rw [e1]
  refine List.filter_eq_self.mpr fun x hx => ?_
  have h1 : 1 ≤ v := hp _ (sGet_some_mem hv)
  have := sSet_pos (k := k) (i := v + n) hp (by omega) x hx
  simp only [decide_eq_true_eq]; omega
theorem chg_ship {l : List (Str × Int)} {k : Str} {n v : Int} (hl : (l.map (·.1)).Nodup) (hp : Pos1 l) (hv : sGet l k = some v) (hn : n ≤ v) : chg l k (-n) = sShip l k n := by
  rw [← sShip_eq hl hp hv hn]
  unfold chg
  congr 1
  refine List.map_congr_left fun x _ => ?_
  by_cases e : x.1 = k
  · rw [if_pos e, if_pos e]; rfl
  · rw [if_neg e, if_neg e, Int.sub_zero]
set_option maxHeartbeats 1000000 in
theorem changed07 {fa w : Addr} {k : Str} {m : Int} {l : List (Str × Int)} {Q : PV → Sig → Prop} (oS : S.Ok) (hf : FnAt S (Str.ofString "_law_changed") fa (bodyOf (stAt P07 14)) (scopeOf (stAt P07 14)) [Str.ofString "entries", Str.ofString "item", Str.ofString "by"])
    (hw : σ w = some (.list (rows l))) (hsz : l.length ≤ 400) (h : ∀ b, σ b = none → Q (.ref b) (σ.set b (.list (rows (chg l k m))))) : Fn S fa [] 1 [.ref w, .str k, .int m] σ Q := by
  have cellF : True := trivial
  refine Fn.weaken ?_
  refine Fn.at oS hf ⟨by decide +kernel, by decide +kernel, rfl, rfl, rfl⟩ rfl fun g ok hc => ?_
  dsimp only [stAt, PySem.Challenge.pw_pd_stockroom_2_07, List.getElem?_cons_succ, List.getElem?_cons_zero, bodyOf]
  walk_at "sr"
  refine ⟨[w], rows l, Iterates.list ok hw, by simp [hw], by rw [rows_length]; omega, fun g' ok' => ?_⟩
  refine CompL.pure (fun _ => true) (fun p => match p with | .tup [.str k', .int n] => row (if k' = k then (k', n + m) else (k', n)) | p => p) _ _ ?_ ?_
  · intro p hp
    obtain ⟨x, hx, rfl⟩ := List.mem_map.mp hp
    have ok := ok'
    refine ⟨_, ⟨.inl rfl, rfl⟩, LSub.set rfl (LSub.refl _), ⟨rfl, rfl⟩, fun _ => ?_⟩
    walk_at "sq"
    by_cases e : x.1 = k
    · rw [if_pos (by simpa using e)]
      walk_at "sq"
      refine ⟨?_, rfl⟩
      simp [row, e]
    · rw [if_neg (by simpa using e)]
      walk_at "sq"
      refine ⟨?_, rfl⟩
      simp [row, e]
  rw [rows_filter_true, List.nil_append]
  have e1 : (rows l).map (fun p => match p with | .tup [.str k', .int n] => row (if k' = k then (k', n + m) else (k', n)) | p => p) = rows (l.map fun x => if x.1 = k then (x.1, x.2 + m) else x) := by simp [rows, row, Function.comp_def]
  rw [e1]
  intro c1 hc1
  have hwc := fresh_ne hc1 hw
  walk_at "sr"
  refine ⟨[c1], _, Iterates.list ok (Sig.set_self _ _ _), by simp [Sig.set_self], by rw [rows_length, List.length_map]; omega, fun g' ok' => ?_⟩
  refine CompL.pure (fun p => match p with | .tup [.str _, .int n] => decide (n > 0) | _ => false) id _ _ ?_ ?_
  · intro p hp
    obtain ⟨x, hx, rfl⟩ := List.mem_map.mp hp
    have ok := ok'
    refine ⟨_, ⟨.inl rfl, rfl⟩, LSub.set rfl (LSub.refl _), ?_, fun _ => ?_⟩
    · walk_at "sq"
      exact tes_end ⟨rfl, rfl⟩
    · walk_at "sq"
      exact ⟨rfl, rfl⟩
  rw [rows_filter _ _ (fun x => decide (x.2 > 0)) (fun x _ => rfl), List.map_id, List.nil_append]
  intro b hb
  have hbc := fresh_ne hb (Sig.set_self _ _ _)
  have hb0 : σ b = none := by rw [Sig.set_ne _ _ (Ne.symm hbc)] at hb; exact hb
  exact ⟨σ.set b (.list (rows (chg l k m))), Sub.set_both (Sub.set hc1), h b hb0⟩

/-! what is due -/
def dueE (l : List (Str × Int)) (kind : Int) (k : Str) (n : Int) : Str :=
  if kind < 6 then Str.ofString "gave" else if kind < 10 then (match sGet l k with | none => Str.ofString "KeyError" | some v => if v < n then Str.ofString "ValueError" else Str.ofString "gave")
  else if kind = 10 then (match l with | [] => Str.ofString "KeyError" | _ => Str.ofString "gave") else Str.ofString "gave"
def dueV (l : List (Str × Int)) (kind : Int) : PV := if kind < 10 then .none else if kind = 10 then (match l.getLast? with | none => .none | some x => row x) else .int l.length
def dueL (l : List (Str × Int)) (kind : Int) (k : Str) (n : Int) : List (Str × Int) :=
  if kind < 6 then sRecv l k n else if kind < 10 then (match sGet l k with | none => l | some v => if v < n then l else sShip l k n) else if kind = 10 then l.dropLast else []
theorem upto_last' (l : List (Str × Int)) : upto (rows l) (-1) = rows l.dropLast := by
  unfold upto
  rw [if_pos (by decide), rows, rows, List.dropLast_eq_take, List.map_take, List.length_map]; rfl

set_option maxHeartbeats 2000000 in
theorem due07 {fa fh fc w : Addr} {kind : Int} {k : Str} {n : Int} {l : List (Str × Int)} {Q : PV → Sig → Prop} (oS : S.Ok) (hf : FnAt S (Str.ofString "_law_due") fa (bodyOf (stAt P07 15)) (scopeOf (stAt P07 15)) [Str.ofString "entries", Str.ofString "kind", Str.ofString "item", Str.ofString "n"])
    (hH : FnAt S (Str.ofString "_law_have") fh (bodyOf (stAt P07 13)) (scopeOf (stAt P07 13)) [Str.ofString "entries", Str.ofString "item"])
    (hCh : FnAt S (Str.ofString "_law_changed") fc (bodyOf (stAt P07 14)) (scopeOf (stAt P07 14)) [Str.ofString "entries", Str.ofString "item", Str.ofString "by"]) (hlen : Bi S "len" (.builtin "len"))
    (hw : σ w = some (.list (rows l))) (hsz : l.length ≤ 100) (hl : (l.map (·.1)).Nodup) (hp : Pos1 l) (hn : 1 ≤ n)
    (h : ∀ e σ', Sub σ σ' → σ' e = some (.list (rows (dueL l kind k n))) → Q (.tup [.str (dueE l kind k n), dueV l kind, .ref e]) σ') : Fn S fa [] 2 [.ref w, .int kind, .str k, .int n] σ Q := by
  have cellF : True := trivial
  refine Fn.at oS hf ⟨by decide +kernel, by decide +kernel, rfl, rfl, rfl⟩ rfl fun g ok hc => ?_
  dsimp only [stAt, PySem.Challenge.pw_pd_stockroom_2_07, List.getElem?_cons_succ, List.getElem?_cons_zero, bodyOf]
  walk_at "sr"
  refine ((have07 (P := l) oS hH hw).room (show 1 ≤ 1 by decide)).mono ?_
  rintro _ _ ⟨rfl, rfl⟩
  walk_at "sr"
  by_cases h6 : kind < 6
  · rw [if_pos (by simpa using h6)]
    have hE : dueE l kind k n = Str.ofString "gave" := if_pos h6
    have hV : dueV l kind = .none := if_pos (by omega)
    have hLL : dueL l kind k n = sRecv l k n := if_pos h6
    rw [hE, hV, hLL] at h
    walk_at "sr"
    cases hv : sGet l k with
    | none =>
      refine ifT (by simp) ?_
      walk_at "sr"
      intro a ha
      have hwa := fresh_ne ha hw
      refine Op2.addl (ps := rows l) (by walk_at "sl") (Sig.set_self _ _ _) (by rw [rows_length]; simp; omega) fun e he => ?_
      walk_at "sr"
      refine h e _ (Sub.trans (Sub.set ha) (Sub.set he)) ?_
      rw [Sig.set_self]
      have hfresh : k ∉ l.map (·.1) := fun hm => by
        obtain ⟨x, hx, rfl⟩ := List.mem_map.mp hm
        rw [sGet_mem hl hx] at hv; cases hv
      unfold sRecv
      rw [hv, sSet_new _ hfresh, rows_append]; simp [rows, row]
    | some v =>
      have h1 := hp _ (sGet_some_mem hv)
      simp only at h1
      refine ifF (by simp; omega) (Exs.nil ?_)
      walk_at "sr"
      refine (changed07 (l := l) (k := k) (m := n) oS hCh hw (by omega) fun e he => ?_).room (show 1 ≤ 1 by decide)
      rw [chg_recv hl hp hv hn]
      walk_at "sr"
      exact h e _ (Sub.set he) (Sig.set_self _ _ _)
  · rw [if_neg (by simpa using h6)]
    refine Exs.nil ?_
    walk_at "sr"
    by_cases h10 : kind < 10
    · rw [if_pos (by simpa using h10)]
      have hV : dueV l kind = .none := if_pos h10
      have hE : dueE l kind k n = (match sGet l k with | none => Str.ofString "KeyError" | some v => if v < n then Str.ofString "ValueError" else Str.ofString "gave") := by unfold dueE; rw [if_neg h6, if_pos h10] <;> rfl
      have hLL : dueL l kind k n = (match sGet l k with | none => l | some v => if v < n then l else sShip l k n) := by unfold dueL; rw [if_neg h6, if_pos h10] <;> rfl
      walk_at "sr"
      cases hv : sGet l k with
      | none =>
        rw [hv] at hE hLL
        rw [hE, hV, hLL] at h
        refine ifT (by simp) ?_
        walk_at "sr"
        exact h w _ (Sub.refl _) hw
      | some v =>
        rw [hv] at hE hLL
        have h1 := hp _ (sGet_some_mem hv)
        simp only at h1
        refine ifF (by simp; omega) (Exs.nil ?_)
        walk_at "sr"
        by_cases hvn : v < n
        · simp only [if_pos hvn] at hE hLL
          rw [hE, hV, hLL] at h
          refine ifT (by simpa using hvn) ?_
          walk_at "sr"
          exact h w _ (Sub.refl _) hw
        · simp only [if_neg hvn] at hE hLL
          rw [hE, hV, hLL] at h
          refine ifF (by simpa using hvn) (Exs.nil ?_)
          walk_at "sr"
          refine (changed07 (l := l) (k := k) (m := -n) oS hCh hw (by omega) fun e he => ?_).room (show 1 ≤ 1 by decide)
          rw [chg_ship hl hp hv (by omega)]
          walk_at "sr"
          exact h e _ (Sub.set he) (Sig.set_self _ _ _)
    · rw [if_neg (by simpa using h10)]
      refine Exs.nil ?_
      walk_at "sr"
      by_cases he10 : kind = 10
      · rw [if_pos (by simpa using he10)]
        walk_at "sr"
        intro a ha
        have hwa := fresh_ne ha hw
        rcases List.eq_nil_or_concat l with rfl | ⟨l', x, hl'⟩
        · have hE : dueE [] kind k n = Str.ofString "KeyError" := by unfold dueE; rw [if_neg h6, if_neg h10, if_pos he10]
          have hV : dueV [] kind = .none := by unfold dueV; rw [if_neg h10, if_pos he10]; rfl
          have hLL : dueL [] kind k n = [] := by unfold dueL; rw [if_neg h6, if_neg h10, if_pos he10]; rfl
          rw [hE, hV, hLL] at h
          refine Op2.eqSame ok (EqR.lists (n := 0) (ps := []) (by rw [Sig.set_ne _ _ hwa]; exact hw) (Sig.set_self _ _ _) rfl) (by decide) rfl ?_
          walk_at "sr"
          exact h w _ (Sub.set ha) (by rw [Sig.set_ne _ _ hwa]; exact hw)
        · have hl'' : l = l' ++ [x] := by simpa using hl'
          subst hl''
          have hE : dueE (l' ++ [x]) kind k n = Str.ofString "gave" := by
            unfold dueE; rw [if_neg h6, if_neg h10, if_pos he10]
            cases l' <;> rfl
          have hV : dueV (l' ++ [x]) kind = row x := by unfold dueV; rw [if_neg h10, if_pos he10]; simp
          have hLL : dueL (l' ++ [x]) kind k n = (l' ++ [x]).dropLast := by unfold dueL; rw [if_neg h6, if_neg h10, if_pos he10]
          rw [hE, hV, hLL] at h
          refine Op2.eqLen ok (ps := rows (l' ++ [x])) (qs := []) (by walk_at "sl") (Sig.set_self _ _ _) (by simp [rows]) ?_
          walk_at "sq"
          refine OpS.neg (ps := rows (l' ++ [x])) (p := row x) (by walk_at "sl") (by decide) (by simp [rows]; omega) (by simp [rows]; rw [List.length_append] at hsz; omega) ?_ ?_
          · have e : (-1 + ((rows (l' ++ [x])).length : Int)).toNat = l'.length := by rw [rows_length, List.length_append, List.length_singleton]; omega
            rw [e, rows_append, List.getElem?_append_right (by rw [rows_length]; exact Nat.le_refl _), rows_length, Nat.sub_self]; rfl
          walk_at "sr"
          refine ⟨w, rows (l' ++ [x]), -1, rfl, rfl, by walk_at "sl", by rw [rows_length]; omega, fun e he => ?_⟩
          rw [upto_last']
          walk_at "sr"
          exact h e _ (Sub.trans (Sub.set ha) (Sub.set he)) (Sig.set_self _ _ _)
      · rw [if_neg (by simpa using he10)]
        refine Exs.nil ?_
        have hE : dueE l kind k n = Str.ofString "gave" := by unfold dueE; rw [if_neg h6, if_neg h10, if_neg he10]
        have hV : dueV l kind = .int l.length := by unfold dueV; rw [if_neg h10, if_neg he10]
        have hLL : dueL l kind k n = [] := by unfold dueL; rw [if_neg h6, if_neg h10, if_neg he10]
        rw [hE, hV, hLL] at h
        walk_at "sr"
        refine OpN.len_list hw (by rw [rows_length]; omega) ?_
        rw [rows_length]
        walk_at "sr"
        intro e he
        walk_at "sr"
        exact h e _ (Sub.set he) (Sig.set_self _ _ _)
end SR

set_option maxRecDepth 100000
set_option linter.unusedVariables false
namespace SR
open PySem
variable {S : Sx} {σ : Sig} {ro : List Addr}

theorem lship07 {fa fs d : Addr} {k : Str} {n : Int} {l : List (Str × Int)} {Q : PV → Sig → Prop} (oS : S.Ok) (hf : FnAt S (Str.ofString "_law_ship") fa (bodyOf (stAt P07 16)) (scopeOf (stAt P07 16)) [Str.ofString "stock", Str.ofString "item", Str.ofString "n"])
    (hS : FnAt S (Str.ofString "ship") fs (bodyOf (stAt P07 2)) (scopeOf (stAt P07 2)) [Str.ofString "stock", Str.ofString "item", Str.ofString "n"])
    (hke : Bi S "KeyError" (.type "KeyError")) (hve : Bi S "ValueError" (.type "ValueError")) (hd : σ d = some (.dict (sd l))) (hro : d ∉ ro) (hsz : l.length ≤ 900)
    (h0 : sGet l k = none → Q (.tup [.str (Str.ofString "KeyError"), .none]) σ) (h1 : ∀ v, sGet l k = some v → v < n → Q (.tup [.str (Str.ofString "ValueError"), .none]) σ) (h2 : ∀ v, sGet l k = some v → n ≤ v → Q (.tup [.str (Str.ofString "gave"), .none]) (σ.set d (.dict (sd (sShip l k n))))) : Fn S fa ro 2 [.ref d, .str k, .int n] σ Q := by
  have cellF : True := trivial
  refine Fn.atF oS hf ⟨by decide +kernel, by decide +kernel, rfl, rfl, rfl⟩ rfl fun g ok hc hF => ?_
  dsimp only [stAt, PySem.Challenge.pw_pd_stockroom_2_07, List.getElem?_cons_succ, List.getElem?_cons_zero, bodyOf]
  refine Exs.cons (Ex.tryCall ok hF hS rfl (.inl rfl) (c₀ := ⟨Str.ofString "KeyError", _, _, [], _⟩) (cs := [⟨Str.ofString "ValueError", _, _, [], _⟩]) ?_)
  walk_at "sr"
  refine ship07 oS hS hke hve hd hro hsz (fun hn => ?_) (fun v hv hlt => ?_) fun v hv hle => ?_
  · refine ⟨"KeyError", true, rfl, hke.g, hke.b, by decide, by rw [isSubtype_type]; kernel_rfl, by rw [isSubtype_type]; kernel_rfl, by rw [isSubtype_type]; kernel_rfl, ?_⟩
    exact Su.retPair (h0 hn)
  · refine ⟨"KeyError", false, rfl, hke.g, hke.b, by decide, by rw [isSubtype_type]; kernel_rfl, by rw [isSubtype_type]; kernel_rfl, by rw [isSubtype_type]; kernel_rfl, ?_⟩
    refine ⟨"ValueError", true, rfl, hve.g, hve.b, by decide, by rw [isSubtype_type]; kernel_rfl, by rw [isSubtype_type]; kernel_rfl, by rw [isSubtype_type]; kernel_rfl, ?_⟩
    exact Su.retPair (h1 v hv hlt)
  · walk_at "sr"
    exact h2 v hv hle
theorem ltake07 {fa ft d : Addr} {l : List (Str × Int)} {Q : PV → Sig → Prop} (oS : S.Ok) (hf : FnAt S (Str.ofString "_law_take") fa (bodyOf (stAt P07 17)) (scopeOf (stAt P07 17)) [Str.ofString "stock"])
    (hT : FnAt S (Str.ofString "take_last") ft (bodyOf (stAt P07 8)) (scopeOf (stAt P07 8)) [Str.ofString "stock"])
    (hke : Bi S "KeyError" (.type "KeyError")) (hd : σ d = some (.dict (sd l))) (hro : d ∉ ro) (hsz : l.length ≤ 900)
    (h0 : l = [] → Q (.tup [.str (Str.ofString "KeyError"), .none]) σ) (h1 : ∀ l' x, l = l' ++ [x] → Q (.tup [.str (Str.ofString "gave"), row x]) (σ.set d (.dict (sd l')))) : Fn S fa ro 2 [.ref d] σ Q := by
  have cellF : True := trivial
  refine Fn.atF oS hf ⟨by decide +kernel, by decide +kernel, rfl, rfl, rfl⟩ rfl fun g ok hc hF => ?_
  dsimp only [stAt, PySem.Challenge.pw_pd_stockroom_2_07, List.getElem?_cons_succ, List.getElem?_cons_zero, bodyOf]
  refine Exs.cons (Ex.tryCall ok hF hT rfl (.inl rfl) (c₀ := ⟨Str.ofString "KeyError", _, _, [], _⟩) (cs := []) ?_)
  walk_at "sr"
  refine take07 oS hT hd hro (by rw [sd_length]; omega) (fun h00 => ?_) fun ini k p hk => ?_
  · have hl : l = [] := by
      cases l with
      | nil => rfl
      | cons _ _ => cases h00
    refine ⟨"KeyError", true, rfl, hke.g, hke.b, by decide, by rw [isSubtype_type]; kernel_rfl, by rw [isSubtype_type]; kernel_rfl, by rw [isSubtype_type]; kernel_rfl, ?_⟩
    exact Su.retPair (h0 hl)
  · rcases List.eq_nil_or_concat l with rfl | ⟨l', x, hl⟩
    · cases ini <;> cases hk
    · have hl' : l = l' ++ [x] := by simpa using hl
      subst hl'
      have e : sd (l' ++ [x]) = sd l' ++ [(x.1, .int x.2)] := by simp [sd]
      rw [e] at hk
      obtain ⟨e1, e2⟩ := List.append_inj' hk rfl
      cases e2
      have := h1 l' x rfl
      rw [e1] at this
      walk_at "sr"
      exact this

theorem set_same {d : Addr} {o : AO} (h : σ d = some o) : σ.set d o = σ := by
  funext b
  by_cases e : b = d
  · subst e; rw [Sig.set_self, h]
  · rw [Sig.set_ne _ _ e]

set_option maxHeartbeats 1000000 in
theorem done07 {fa fr fz fs fk ft fe d : Addr} {kind : Int} {k : Str} {n : Int} {l : List (Str × Int)} {Q : PV → Sig → Prop} (oS : S.Ok) (hf : FnAt S (Str.ofString "_law_done") fa (bodyOf (stAt P07 18)) (scopeOf (stAt P07 18)) [Str.ofString "stock", Str.ofString "kind", Str.ofString "item", Str.ofString "n"])
    (hR : FnAt S (Str.ofString "receive") fr (bodyOf (stAt P07 1)) (scopeOf (stAt P07 1)) [Str.ofString "stock", Str.ofString "item", Str.ofString "n"])
    (hZ : FnAt S (Str.ofString "_law_ship") fz (bodyOf (stAt P07 16)) (scopeOf (stAt P07 16)) [Str.ofString "stock", Str.ofString "item", Str.ofString "n"])
    (hS : FnAt S (Str.ofString "ship") fs (bodyOf (stAt P07 2)) (scopeOf (stAt P07 2)) [Str.ofString "stock", Str.ofString "item", Str.ofString "n"])
    (hK : FnAt S (Str.ofString "_law_take") fk (bodyOf (stAt P07 17)) (scopeOf (stAt P07 17)) [Str.ofString "stock"])
    (hT : FnAt S (Str.ofString "take_last") ft (bodyOf (stAt P07 8)) (scopeOf (stAt P07 8)) [Str.ofString "stock"])
    (hE : FnAt S (Str.ofString "emptied") fe (bodyOf (stAt P07 7)) (scopeOf (stAt P07 7)) [Str.ofString "stock"])
    (hlen : Bi S "len" (.builtin "len")) (hke : Bi S "KeyError" (.type "KeyError")) (hve : Bi S "ValueError" (.type "ValueError")) (hd : σ d = some (.dict (sd l))) (hro : d ∉ ro) (hsz : l.length ≤ 100)
    (h : Q (.tup [.str (dueE l kind k n), dueV l kind]) (σ.set d (.dict (sd (dueL l kind k n))))) : Fn S fa ro 3 [.ref d, .int kind, .str k, .int n] σ Q := by
  have cellF : True := trivial
  refine Fn.at oS hf ⟨by decide +kernel, by decide +kernel, rfl, rfl, rfl⟩ rfl fun g ok hc => ?_
  dsimp only [stAt, PySem.Challenge.pw_pd_stockroom_2_07, List.getElem?_cons_succ, List.getElem?_cons_zero, bodyOf]
  walk_at "sr"
  by_cases h6 : kind < 6
  · rw [if_pos (by simpa using h6)]
    have e1 : dueE l kind k n = Str.ofString "gave" := if_pos h6
    have e2 : dueV l kind = .none := if_pos (by omega)
    have e3 : dueL l kind k n = sRecv l k n := if_pos h6
    rw [e1, e2, e3] at h
    walk_at "sr"
    refine ((recv07 (l := l) oS hR hd hro (by omega)).room (show 1 ≤ 2 by decide)).mono ?_
    rintro _ _ ⟨rfl, rfl⟩
    walk_at "sr"
    exact h
  · rw [if_neg (by simpa using h6)]
    refine Exs.nil ?_
    walk_at "sr"
    by_cases h10 : kind < 10
    · rw [if_pos (by simpa using h10)]
      have e2 : dueV l kind = .none := if_pos h10
      have e1 : dueE l kind k n = (match sGet l k with | none => Str.ofString "KeyError" | some v => if v < n then Str.ofString "ValueError" else Str.ofString "gave") := by unfold dueE; rw [if_neg h6, if_pos h10] <;> rfl
      have e3 : dueL l kind k n = (match sGet l k with | none => l | some v => if v < n then l else sShip l k n) := by unfold dueL; rw [if_neg h6, if_pos h10] <;> rfl
      walk_at "sr"
      refine lship07 oS hZ hS hke hve hd hro (by omega) (fun hv => ?_) (fun v hv hlt => ?_) fun v hv hle => ?_
      · rw [hv] at e1 e3
        rw [e1, e2, e3, set_same hd] at h; exact h
      · rw [hv] at e1 e3
        simp only [if_pos hlt] at e1 e3
        rw [e1, e2, e3, set_same hd] at h; exact h
      · rw [hv] at e1 e3
        simp only [if_neg (show ¬ v < n by omega)] at e1 e3
        rw [e1, e2, e3] at h; exact h
    · rw [if_neg (by simpa using h10)]
      refine Exs.nil ?_
      walk_at "sr"
      by_cases he10 : kind = 10
      · rw [if_pos (by simpa using he10)]
        walk_at "sr"
        refine ltake07 oS hK hT hke hd hro (by omega) (fun hl => ?_) fun l' x hl => ?_
        · subst hl
          have e1 : dueE [] kind k n = Str.ofString "KeyError" := by unfold dueE; rw [if_neg h6, if_neg h10, if_pos he10]
          have e2 : dueV [] kind = .none := by unfold dueV; rw [if_neg h10, if_pos he10]; rfl
          have e3 : dueL [] kind k n = [] := by unfold dueL; rw [if_neg h6, if_neg h10, if_pos he10]; rfl
          rw [e1, e2, e3, set_same hd] at h; exact h
        · subst hl
          have e1 : dueE (l' ++ [x]) kind k n = Str.ofString "gave" := by
            unfold dueE; rw [if_neg h6, if_neg h10, if_pos he10]
            cases l' <;> rfl
          have e2 : dueV (l' ++ [x]) kind = row x := by unfold dueV; rw [if_neg h10, if_pos he10]; simp
          have e3 : dueL (l' ++ [x]) kind k n = l' := by unfold dueL; rw [if_neg h6, if_neg h10, if_pos he10]; simp
          rw [e1, e2, e3] at h; exact h
      · rw [if_neg (by simpa using he10)]
        refine Exs.nil ?_
        have e1 : dueE l kind k n = Str.ofString "gave" := by unfold dueE; rw [if_neg h6, if_neg h10, if_neg he10]
        have e2 : dueV l kind = .int l.length := by unfold dueV; rw [if_neg h10, if_neg he10]
        have e3 : dueL l kind k n = [] := by unfold dueL; rw [if_neg h6, if_neg h10, if_neg he10]
        rw [e1, e2, e3] at h
        walk_at "sr"
        refine ((empt07 (kvs := sd l) oS hE hlen hd hro (by rw [sd_length]; omega)).room (show 1 ≤ 2 by decide)).mono ?_
        rintro _ _ ⟨rfl, rfl⟩
        rw [sd_length]
        walk_at "sr"
        exact h

/-! in the order of the names -/
theorem sLe_of_not {a b : Str} (h : ¬ sLt a b) : sLe b a := h
theorem sLe_lt {a b c : Str} (h : sLe a b) (h2 : sLt b c) : sLt a c := List.lt_of_le_of_lt h h2
theorem drop_lower {x : Str} : ∀ {r : List (Str × Int)}, (r.map (·.1)).Pairwise sLe → r.drop (r.filter fun y => decide (sLt y.1 x)).length = r.filter fun y => !decide (sLt y.1 x)
  | [], _ => rfl
  | y :: r, h => by
    have h' := List.pairwise_cons.mp h
    by_cases e : sLt y.1 x
    · rw [List.filter_cons_of_pos (by simpa using e), List.filter_cons_of_neg (by simpa using e), List.length_cons, List.drop_succ_cons]
      exact drop_lower h'.2
    · have e0 : (y :: r).filter (fun y => decide (sLt y.1 x)) = [] := List.filter_eq_nil_iff.mpr fun z hz hlt => by
        have hlt' : sLt z.1 x := of_decide_eq_true hlt
        rcases List.mem_cons.mp hz with rfl | hz
        · exact e hlt'
        · exact e (sLe_lt (h'.1 z.1 (List.mem_map.mpr ⟨z, hz, rfl⟩)) hlt')
      rw [e0]
      show y :: r = _
      refine (List.filter_eq_self.mpr fun z hz => ?_).symm
      have := List.filter_eq_nil_iff.mp e0 z hz
      simpa using this
def insB (r : List (Str × Int)) (x : Str × Int) : List (Str × Int) := (r.filter fun y => decide (sLt y.1 x.1)) ++ [x] ++ r.drop (r.filter fun y => decide (sLt y.1 x.1)).length
theorem insB_perm {r : List (Str × Int)} {x : Str × Int} (h : (r.map (·.1)).Pairwise sLe) : (insB r x).Perm (x :: r) := by
  unfold insB
  rw [drop_lower h]
  refine List.Perm.trans (List.Perm.append_right _ (List.perm_append_comm)) ?_
  show (x :: (_ ++ _)).Perm _
  exact (List.filter_append_perm (fun y : Str × Int => decide (sLt y.1 x.1)) r).cons x
theorem sLe_of_lt {a b : Str} (h : sLt a b) : sLe a b := List.le_of_lt h
theorem insB_sorted {r : List (Str × Int)} {x : Str × Int} (h : (r.map (·.1)).Pairwise sLe) : ((insB r x).map (·.1)).Pairwise sLe := by
  unfold insB
  rw [drop_lower h, List.append_assoc, List.map_append, List.map_append]
  refine List.pairwise_append.mpr ⟨h.sublist (List.filter_sublist.map _), List.pairwise_append.mpr ⟨by simp, h.sublist (List.filter_sublist.map _), fun a ha b hb => ?_⟩, fun a ha b hb => ?_⟩
  · obtain rfl : a = x.1 := by simpa using ha
    obtain ⟨z, hz, rfl⟩ := List.mem_map.mp hb
    have := (List.mem_filter.mp hz).2
    exact sLe_of_not (by simpa using this)
  · obtain ⟨y, hy, rfl⟩ := List.mem_map.mp ha
    have hyx : sLt y.1 x.1 := of_decide_eq_true (List.mem_filter.mp hy).2
    rcases List.mem_append.mp hb with hb | hb
    · obtain rfl : b = x.1 := by simpa using hb
      exact sLe_of_lt hyx
    · obtain ⟨z, hz, rfl⟩ := List.mem_map.mp hb
      have := (List.mem_filter.mp hz).2
      exact sLe_trans (sLe_of_lt hyx) (sLe_of_not (by simpa using this))

set_option maxHeartbeats 1000000 in
theorem byname07 {fa w : Addr} {l : List (Str × Int)} {Q : PV → Sig → Prop} (oS : S.Ok) (hf : FnAt S (Str.ofString "_law_by_name") fa (bodyOf (stAt P07 19)) (scopeOf (stAt P07 19)) [Str.ofString "entries"]) (hlen : Bi S "len" (.builtin "len"))
    (hw : σ w = some (.list (rows l))) (hsz : l.length ≤ 100)
    (h : ∀ b R σ', Sub σ σ' → R.Perm l → (R.map (·.1)).Pairwise sLe → σ' b = some (.list (rows R)) → Q (.ref b) σ') : Fn S fa [] 1 [.ref w] σ Q := by
  have cellF : True := trivial
  refine Fn.at oS hf ⟨by decide +kernel, by decide +kernel, rfl, rfl, rfl⟩ rfl fun g ok hc => ?_
  dsimp only [stAt, PySem.Challenge.pw_pd_stockroom_2_07, List.getElem?_cons_succ, List.getElem?_cons_zero, bodyOf]
  walk_at "sr"
  intro r0 hr0
  have hwr := fresh_ne hr0 hw
  walk_at "sr"
  refine ⟨[w], rows l, _, Iterates.list ok (by walk_at "sl"), Sub.refl _, by simp [Sig.set_ne _ _ hwr, hw], ?_⟩
  refine ForL.inv _ _ _ (fun i ρ' σ' => ∃ (r : Addr) (R : List (Str × Int)), ρ' = Loc.set _ (Str.ofString "rows") (.ref r) ∧ Sub σ σ' ∧ R.Perm (l.take i) ∧ (R.map (·.1)).Pairwise sLe ∧ σ' r = some (.list (rows R))) ⟨r0, [], rfl, Sub.set hr0, List.Perm.refl _, by simp, Sig.set_self _ _ _⟩ ?_ ?_
  · rintro i p ρ' σ' hp ⟨r, R, rfl, hsub, hperm, hso, hR⟩
    obtain ⟨x, hx, rfl⟩ := rows_get hp
    have hi := lt_of_get hx
    refine ⟨_, ⟨.inr ⟨rfl, hc _ rfl⟩, rfl⟩, ?_⟩
    have hRl : R.length ≤ 100 := by rw [hperm.length_eq, List.length_take]; omega
    have ok := okRo ok ([w] ++ [])
    walk_at "sr"
    refine ⟨[r], rows R, Iterates.list ok hR, by simp [hR], by rw [rows_length]; omega, fun g' ok' => ?_⟩
    refine CompL.pure (fun p => match p with | .tup [.str k, _] => decide (sLt k x.1) | _ => false) id _ _ ?_ ?_
    · intro p hp
      obtain ⟨y, hy, rfl⟩ := List.mem_map.mp hp
      have ok := ok'
      refine ⟨_, ⟨.inl rfl, rfl⟩, LSub.set rfl (LSub.refl _), ?_, fun _ => ?_⟩
      · walk_at "sq"
        exact tes_end ⟨rfl, rfl⟩
      · walk_at "sq"
        exact ⟨rfl, rfl⟩
    rw [rows_filter R _ (fun y => decide (sLt y.1 x.1)) (fun y _ => rfl), List.map_id, List.nil_append]
    have hll := List.length_filter_le (fun y : Str × Int => decide (sLt y.1 x.1)) R
    have hins : insB R x = (R.filter fun y => decide (sLt y.1 x.1)) ++ [x] ++ R.drop (R.filter fun y => decide (sLt y.1 x.1)).length := rfl
    generalize (R.filter fun y => decide (sLt y.1 x.1)) = lw at hll hins ⊢
    intro lo hlo
    have hrl := fresh_ne hlo hR
    walk_at "sr"
    intro a ha
    have hra : r ≠ a := fresh_ne ha (by walk_at "sl")
    have hloa : lo ≠ a := fresh_ne ha (Sig.set_self _ _ _)
    refine Op2.addl (ps := rows lw) (by walk_at "sl") (Sig.set_self _ _ _) (by rw [rows_length]; show _ + 1 ≤ 1000; omega) fun b hb => ?_
    have hrb : r ≠ b := fresh_ne hb (by walk_at "sl")
    have hlob : lo ≠ b := fresh_ne hb (by walk_at "sl")
    walk_at "sr"
    refine OpN.len_list (ps := rows lw) (by walk_at "sl") (by rw [rows_length]; omega) ?_
    rw [rows_length]
    refine ⟨r, rows R, lw.length, rfl, rfl, by walk_at "sl", by rw [rows_length]; omega, fun c hc' => ?_⟩
    have hbc : b ≠ c := fresh_ne hc' (Sig.set_self _ _ _)
    have hdl : (rows R).drop lw.length = rows (R.drop lw.length) := by unfold rows; rw [List.map_drop]
    rw [hdl]
    refine Op2.addl (ps := rows lw ++ [row x]) (by walk_at "sl") (Sig.set_self _ _ _) (by rw [rows_length, List.length_append, rows_length, List.length_drop]; show _ + 1 + _ ≤ 1000; omega) fun e he => ?_
    have e1 : rows lw ++ [row x] ++ rows (R.drop lw.length) = rows (insB R x) := by
      rw [hins, rows_append, rows_append]; rfl
    rw [e1]
    have hs1 : Sub σ' (σ'.set lo (.list (rows lw))) := Sub.set hlo
    refine Exs.nil ⟨_, _, ?_, Sub.refl _, e, insB R x, rfl, Sub.trans hsub (Sub.trans (Sub.trans (Sub.trans (Sub.trans hs1 (Sub.set ha)) (Sub.set hb)) (Sub.set hc')) (Sub.set he)), ?_, insB_sorted hso, Sig.set_self _ _ _⟩
    · walk_at "slsub"
    · rw [take_snoc hx]
      exact (insB_perm hso).trans ((hperm.cons x).trans (List.perm_append_comm (l₁ := [x])))
  · rintro ρ' σ' ⟨r, R, rfl, hsub, hperm, hso, hR⟩
    rw [rows_length, List.take_length] at hperm
    walk_at "sr"
    exact h r R σ' hsub hperm hso hR
end SR

set_option maxRecDepth 100000
set_option linter.unusedVariables false
namespace SR
open PySem
variable {S : Sx} {σ : Sig} {ro : List Addr}

set_option maxHeartbeats 1000000 in
theorem turned07 {fa w : Addr} {l : List (Str × Int)} {Q : PV → Sig → Prop} (oS : S.Ok) (hf : FnAt S (Str.ofString "_law_turned") fa (bodyOf (stAt P07 20)) (scopeOf (stAt P07 20)) [Str.ofString "entries"])
    (hw : σ w = some (.list (rows l))) (hsz : l.length ≤ 100)
    (h : ∀ (t : Addr) (T : List (Int × Addr)) (σ' : Sig), Sub σ σ' → T.map (·.1) = cnts l → σ' t = some (.list (T.map tRow)) → (∀ x ∈ T, σ' x.2 = some (.list (namesOf l x.1))) → Q (.ref t) σ') : Fn S fa [] 1 [.ref w] σ Q := by
  have cellF : True := trivial
  refine Fn.at oS hf ⟨by decide +kernel, by decide +kernel, rfl, rfl, rfl⟩ rfl fun g ok hc => ?_
  dsimp only [stAt, PySem.Challenge.pw_pd_stockroom_2_07, List.getElem?_cons_succ, List.getElem?_cons_zero, bodyOf]
  walk_at "sr"
  intro t ht
  have hwt := fresh_ne ht hw
  walk_at "sr"
  refine ⟨[w], rows l, _, Iterates.list ok (by walk_at "sl"), Sub.refl _, by simp [Sig.set_ne _ _ hwt, hw], ?_⟩
  refine ForL.inv _ _ _ (fun i ρ' σ' => ρ' = _ ∧ ∃ T : List (Int × Addr), Sub σ σ' ∧ T.map (·.1) = cnts (l.take i) ∧ σ' t = some (.list (T.map tRow)) ∧ (∀ x ∈ T, σ' x.2 = some (.list (namesOf l x.1)) ∧ x.2 ≠ t) ∧ T.length ≤ i) ⟨rfl, [], Sub.set ht, rfl, Sig.set_self _ _ _, by simp, Nat.le_refl _⟩ ?_ ?_
  · rintro i p ρ' σ' hp ⟨rfl, T, hsub, hkeys, hT, hTu, hTl⟩
    obtain ⟨x, hx, rfl⟩ := rows_get hp
    have hi := lt_of_get hx
    refine ⟨_, ⟨.inr ⟨rfl, hc _ rfl⟩, rfl⟩, ?_⟩
    have hW := hsub w _ hw
    have htw : t ≠ w := fun e => hwt e.symm
    have ok := okRo ok ([w] ++ [])
    have htro : t ∉ [w] ++ [] := by simp [htw]
    walk_at "sr"
    refine ⟨[t], T.map tRow, Iterates.list ok hT, by simp [hT], by rw [List.length_map]; omega, fun g' ok' => ?_⟩
    refine CompL.pure (fun _ => true) pv0 _ _ ?_ ?_
    · intro p hp
      obtain ⟨y, hy, rfl⟩ := List.mem_map.mp hp
      have ok := ok'
      refine ⟨_, ⟨.inl rfl, rfl⟩, LSub.set rfl (LSub.refl _), ⟨rfl, rfl⟩, fun _ => ?_⟩
      unfold tRow
      walk_at "sq"
      exact ⟨rfl, rfl⟩
    have e0 : ((T.map tRow).filter fun _ => true).map pv0 = (T.map (·.1)).map .int := by
      rw [List.filter_eq_self.mpr fun _ _ => rfl, List.map_map, List.map_map]; rfl
    rw [e0, List.nil_append, hkeys]
    intro c1 hc1
    refine Op2.notin_ints (Sig.set_self _ _ _) ?_
    walk_at "sr"
    have hsub2 : Sub σ' (σ'.set c1 (.list ((cnts (l.take i)).map .int))) := Sub.set hc1
    by_cases hin : x.2 ∈ cnts (l.take i)
    · rw [if_neg (by simpa using hin)]
      refine Exs.nil (Exs.nil ⟨_, σ', ?_, hsub2, rfl, T, hsub, ?_, hT, hTu, by omega⟩)
      · walk_at "slsub"
      · rw [take_snoc hx, cnts_snoc, if_pos hin]; exact hkeys
    · rw [if_pos (by simpa using hin)]
      refine Exs.drop (σ₀ := σ') ?_ (LSub.refl _) hsub2
      walk_at "sr"
      refine ⟨[w], rows l, Iterates.list ok hW, by simp [hW], by rw [rows_length]; omega, fun g' ok' => ?_⟩
      refine CompL.pure (fun p => match p with | .tup [_, .int m] => decide (m = x.2) | _ => false) pv0 _ _ ?_ ?_
      · intro p hp
        obtain ⟨y, hy, rfl⟩ := List.mem_map.mp hp
        have ok := ok'
        refine ⟨_, ⟨.inl rfl, rfl⟩, LSub.set rfl (LSub.refl _), ?_, fun _ => ?_⟩
        · walk_at "sq"
          exact tes_end ⟨rfl, rfl⟩
        · walk_at "sq"
          exact ⟨rfl, rfl⟩
      have e1 : ((rows l).filter (fun p => match p with | .tup [_, .int m] => decide (m = x.2) | _ => false)).map pv0 = namesOf l x.2 := by
        rw [rows_filter l _ (fun y => decide (y.2 = x.2)) (fun y _ => rfl)]
        simp [rows, row, pv0, namesOf, Function.comp_def]
      rw [e1, List.nil_append]
      intro a ha
      have hta := fresh_ne ha hT
      walk_at "sr"
      refine OpN.append ok (by walk_at "sl") htro (by rw [List.length_map]; omega) ⟨rfl, ?_⟩
      refine Exs.nil (Exs.nil ⟨_, _, ?_, Sub.refl _, rfl, T ++ [(x.2, a)], ?_, ?_, ?_, ?_, by simp; omega⟩)
      · walk_at "slsub"
      · intro b o hb
        have h1 : b ≠ a := fresh_ne ha (hsub b o hb)
        have h2 : b ≠ t := fun q => by subst q; rw [hb] at ht; cases ht
        rw [Sig.set_ne _ _ h2, Sig.set_ne _ _ h1]; exact hsub b o hb
      · rw [take_snoc hx, cnts_snoc, if_neg hin, List.map_append, hkeys]; rfl
      · rw [Sig.set_self, List.map_append]; rfl
      · intro y hy
        rcases List.mem_append.mp hy with hy | hy
        · obtain ⟨h1, h2⟩ := hTu y hy
          refine ⟨?_, h2⟩
          rw [Sig.set_ne _ _ h2, Sig.set_ne _ _ (fresh_ne ha h1)]; exact h1
        · obtain rfl := List.mem_singleton.mp hy
          refine ⟨?_, Ne.symm hta⟩
          rw [Sig.set_ne _ _ (Ne.symm hta), Sig.set_self]
  · rintro ρ' σ' ⟨rfl, T, hsub, hkeys, hT, hTu, hTl⟩
    rw [rows_length, List.take_length] at hkeys
    walk_at "sr"
    exact h t T σ' hsub hkeys hT fun x hx => (hTu x hx).1

theorem sLe_anti {a b : Str} (h1 : sLe a b) (h2 : sLe b a) : a = b := cps_inj (List.le_antisymm h1 h2)
theorem sorted_perm : ∀ {a b : List Str}, a.Perm b → a.Pairwise sLe → b.Pairwise sLe → a = b
  | [], b, h, _, _ => h.nil_eq
  | x :: a, [], h, _, _ => h.eq_nil
  | x :: a, y :: b, h, ha, hb => by
    have ha' := List.pairwise_cons.mp ha
    have hb' := List.pairwise_cons.mp hb
    have hxy : x = y := by
      rcases List.mem_cons.mp (h.mem_iff.mp List.mem_cons_self : x ∈ y :: b) with e | e
      · exact e
      · rcases List.mem_cons.mp (h.mem_iff.mpr List.mem_cons_self : y ∈ x :: a) with q | q
        · exact q.symm
        · exact sLe_anti (ha'.1 y q) (hb'.1 x e)
    subst hxy
    rw [sorted_perm (List.Perm.cons_inv h) ha'.2 hb'.2]
theorem listed_eq {l R : List (Str × Int)} {ys : List Str} (hl : (l.map (·.1)).Nodup) (hp : ys.Perm (l.map (·.1))) (hs : ys.Pairwise sLe) (hR : R.Perm l) (hRs : (R.map (·.1)).Pairwise sLe) : R = ys.map fun k => (k, (sGet l k).getD 0) := by
  have e : ys = R.map (·.1) := sorted_perm (hp.trans (hR.map _).symm) hs hRs
  rw [e, List.map_map]
  refine (List.map_id R).symm.trans (List.map_congr_left fun x hx => ?_)
  have := sGet_mem hl (hR.mem_iff.mp hx)
  simp only [Function.comp, this, Option.getD_some]; rfl

theorem due_nodup {l : List (Str × Int)} {kind : Int} {k : Str} {n : Int} (h : (l.map (·.1)).Nodup) : ((dueL l kind k n).map (·.1)).Nodup := by
  unfold dueL
  split
  · exact sRecv_nodup h
  · split
    · split
      · exact h
      · split
        · exact h
        · exact sShip_nodup h
    · split
      · exact ((List.dropLast_sublist l).map _).nodup h
      · simp
theorem sShip_pos {l : List (Str × Int)} {k : Str} {n v : Int} (hl : (l.map (·.1)).Nodup) (hp : Pos1 l) (hv : sGet l k = some v) (hn : n ≤ v) : Pos1 (sShip l k n) := by
  rw [← sShip_eq hl hp hv hn]
  intro x hx
  have := (List.mem_filter.mp hx).2
  simp only [decide_eq_true_eq] at this; omega
theorem due_pos {l : List (Str × Int)} {kind : Int} {k : Str} {n : Int} (h : (l.map (·.1)).Nodup) (hp : Pos1 l) (hn : 1 ≤ n) : Pos1 (dueL l kind k n) := by
  unfold dueL
  split
  · exact sRecv_pos hp hn
  · split
    · split
      · exact hp
      · next v hv =>
        split
        · exact hp
        · exact sShip_pos h hp hv (by omega)
    · split
      · exact fun x hx => hp x ((List.dropLast_sublist l).mem hx)
      · exact fun x hx => (nomatch hx)
theorem sShip_len (l : List (Str × Int)) (k : Str) (n : Int) : (sShip l k n).length ≤ l.length + 1 := by
  unfold sShip
  split
  · unfold sDel; exact Nat.le_trans (List.length_filter_le _ _) (Nat.le_succ _)
  · exact sSet_length_le _ _ _
theorem due_length (l : List (Str × Int)) (kind : Int) (k : Str) (n : Int) : (dueL l kind k n).length ≤ l.length + 1 := by
  unfold dueL
  split
  · exact sRecv_length_le l k n
  · split
    · split
      · exact Nat.le_succ _
      · split
        · exact Nat.le_succ _
        · exact sShip_len l k n
    · split
      · rw [List.length_dropLast]; omega
      · simp
theorem due_same {l : List (Str × Int)} {kind : Int} {k : Str} {n : Int} (h : dueE l kind k n ≠ Str.ofString "gave") : dueL l kind k n = l := by
  unfold dueE at h
  unfold dueL
  split at h
  · exact (h rfl).elim
  · next h6 =>
    rw [if_neg h6]
    split at h
    · next h10 =>
      rw [if_pos h10]
      split at h
      · rfl
      · next v hv =>
        split at h
        · next hlt => exact if_pos hlt
        · exact (h rfl).elim
    · next h10 =>
      rw [if_neg h10]
      split at h
      · next h11 =>
        rw [if_pos h11]
        split at h
        · rfl
        · exact (h rfl).elim
      · exact (h rfl).elim
theorem dueV_eq (σ : Sig) (l : List (Str × Int)) (kind : Int) : EqR σ 1 (dueV l kind) (dueV l kind) := by
  unfold dueV
  split
  · exact .none _
  · split
    · split
      · exact .none _
      · exact EqR.pure 1 _ (by simp [row, pureP, pureL])
    · exact .int _ _
end SR

set_option maxRecDepth 100000
set_option linter.unusedVariables false
namespace SR
open PySem PyProof.Rows
variable {S : Sx} {σ : Sig} {ro : List Addr}

def pool07 : List Str := [Str.ofString "nut", Str.ofString "bolt", Str.ofString "nuts", Str.ofString "Axle"]
abbrev gp07 : Pos := ⟨117, 15, 117, 45⟩
theorem Exs.gen07 {C : Cx} {st : List Stmt} {ρ : Loc} {σ : Sig} {Q : Fl → Loc → Sig → Prop} {X : String → Sig → Prop} {P : Sig → Prop} (hp : P σ) (h : ∀ σ₁, P σ₁ → Exs C st ρ σ₁ Q X) : Exs C st ρ σ Q X := h σ hp
structure At7 (σ : Sig) (P d ea la : Addr) (l m : List (Str × Int)) : Prop where
  p : σ P = some (.tab gp07)
  d : σ d = some (.dict (sd l))
  e : σ ea = some (.list (rows l))
  a : σ la = some (.list (rows m))
theorem At7.sub {σ σ' : Sig} {P d ea la : Addr} {l m : List (Str × Int)} (h : At7 σ P d ea la l m) (k : Sub σ σ') : At7 σ' P d ea la l m := ⟨k _ _ h.p, k _ _ h.d, k _ _ h.e, k _ _ h.a⟩
theorem At7.new {σ : Sig} {P d ea la b : Addr} {l m : List (Str × Int)} (h : At7 σ P d ea la l m) (hb : σ b = none) (o : AO) : At7 (σ.set b o) P d ea la l m := h.sub (Sub.set hb)
theorem any_none {l : List (Str × Int)} (h : Pos1 l) : ((List.range l.length).any fun i => decide (((l.map (·.2)).getD i 0) < 1)) = false := by
  rw [List.any_eq_false]
  intro i hi
  have hi' := List.mem_range.mp hi
  have : (l.map (·.2)).getD i 0 = (l[i]'hi').2 := by
    rw [List.getD_eq_getElem?_getD, List.getElem?_map, List.getElem?_eq_getElem hi']; rfl
  rw [this]
  have := h _ (List.getElem_mem hi')
  simp only [decide_eq_true_eq]; omega

theorem Te.mono {C : Cx} {ρ : Loc} {e : Expr} {Q₁ Q₂ : Bool → Sig → Prop} {X : String → Sig → Prop} (h : Te C e ρ σ Q₁ X) (hq : ∀ b τ, Q₁ b τ → Q₂ b τ) : Te C e ρ σ Q₂ X :=
  ⟨fun s x => wpAny_mono (h.run s x) (fun b s' ⟨σ', h1, h2, h3⟩ => ⟨σ', h1, h2, hq _ _ h3⟩) fun _ _ e => e⟩
structure Fns7 (S : Sx) (fr fs fco fli fal fto fe ft fb fc fh fch fdu fz fk fdo fbn ftu : Addr) : Prop where
  r : FnAt S (Str.ofString "receive") fr (bodyOf (stAt P07 1)) (scopeOf (stAt P07 1)) [Str.ofString "stock", Str.ofString "item", Str.ofString "n"]
  s : FnAt S (Str.ofString "ship") fs (bodyOf (stAt P07 2)) (scopeOf (stAt P07 2)) [Str.ofString "stock", Str.ofString "item", Str.ofString "n"]
  co : FnAt S (Str.ofString "count_of") fco (bodyOf (stAt P07 3)) (scopeOf (stAt P07 3)) [Str.ofString "stock", Str.ofString "item"]
  li : FnAt S (Str.ofString "listed") fli (bodyOf (stAt P07 4)) (scopeOf (stAt P07 4)) [Str.ofString "stock"]
  al : FnAt S (Str.ofString "as_laid") fal (bodyOf (stAt P07 5)) (scopeOf (stAt P07 5)) [Str.ofString "stock"]
  to : FnAt S (Str.ofString "total") fto (bodyOf (stAt P07 6)) (scopeOf (stAt P07 6)) [Str.ofString "stock"]
  e : FnAt S (Str.ofString "emptied") fe (bodyOf (stAt P07 7)) (scopeOf (stAt P07 7)) [Str.ofString "stock"]
  t : FnAt S (Str.ofString "take_last") ft (bodyOf (stAt P07 8)) (scopeOf (stAt P07 8)) [Str.ofString "stock"]
  b : FnAt S (Str.ofString "by_count") fb (bodyOf (stAt P07 9)) (scopeOf (stAt P07 9)) [Str.ofString "stock"]
  c : FnAt S (Str.ofString "_law_cell") fc (bodyOf (stAt P07 12)) (scopeOf (stAt P07 12)) [Str.ofString "script", Str.ofString "at"]
  h : FnAt S (Str.ofString "_law_have") fh (bodyOf (stAt P07 13)) (scopeOf (stAt P07 13)) [Str.ofString "entries", Str.ofString "item"]
  ch : FnAt S (Str.ofString "_law_changed") fch (bodyOf (stAt P07 14)) (scopeOf (stAt P07 14)) [Str.ofString "entries", Str.ofString "item", Str.ofString "by"]
  du : FnAt S (Str.ofString "_law_due") fdu (bodyOf (stAt P07 15)) (scopeOf (stAt P07 15)) [Str.ofString "entries", Str.ofString "kind", Str.ofString "item", Str.ofString "n"]
  z : FnAt S (Str.ofString "_law_ship") fz (bodyOf (stAt P07 16)) (scopeOf (stAt P07 16)) [Str.ofString "stock", Str.ofString "item", Str.ofString "n"]
  k : FnAt S (Str.ofString "_law_take") fk (bodyOf (stAt P07 17)) (scopeOf (stAt P07 17)) [Str.ofString "stock"]
  dn : FnAt S (Str.ofString "_law_done") fdo (bodyOf (stAt P07 18)) (scopeOf (stAt P07 18)) [Str.ofString "stock", Str.ofString "kind", Str.ofString "item", Str.ofString "n"]
  bn : FnAt S (Str.ofString "_law_by_name") fbn (bodyOf (stAt P07 19)) (scopeOf (stAt P07 19)) [Str.ofString "entries"]
  tu : FnAt S (Str.ofString "_law_turned") ftu (bodyOf (stAt P07 20)) (scopeOf (stAt P07 20)) [Str.ofString "entries"]

set_option maxHeartbeats 8000000 in
theorem law07 {fa fr fs fco fli fal fto fe ft fb fc fh fch fdu fz fk fdo fbn ftu sa c P bm : Addr} {ob : Obj} {ns : List Int} (oS : S.Ok) (hL : FnAtC S (Str.ofString "law") fa (bodyOf (stAt P07 21)) (scopeOf (stAt P07 21)) [Str.ofString "script"] c)
    (F7 : Fns7 S fr fs fco fli fal fto fe ft fb fc fh fch fdu fz fk fdo fbn ftu)
    {nv : Value} (hN : S.mg (Str.ofString "_law_pool") = some nv) (hNv : VR S.base nv (.tup (pool07.map .str)))
    (hs : Script S sa ns) (hn : ns.length ≤ 63) (hlen : Bi S "len" (.builtin "len")) (hmin : Bi S "min" (.builtin "min")) (hsum : Bi S "sum" (.builtin "sum")) (hany : Bi S "any" (.builtin "any")) (hrange : Bi S "range" (.type "range")) (hlist : Bi S "list" (.type "list")) (hke : Bi S "KeyError" (.type "KeyError")) (hve : Bi S "ValueError" (.type "ValueError"))
    (hG : ∀ env : Env, env.code = .ref c → GenOk S env c P bm ob) (hgok : ∀ g, S.gok g ↔ AllBare g) (hP0 : σ P = some (.tab gp07)) :
    Fn S fa [] 5 [.ref sa] σ (fun p σ' => p = .bool true ∧ σ' P = some (.tab gp07)) := by
  refine Fn.atG oS hL ⟨by decide +kernel, by decide +kernel, rfl, rfl, rfl⟩ rfl fun g ok hc hF hcd => ?_
  have hR := F7.r
  have hSh := F7.s
  have hCo := F7.co
  have hLi := F7.li
  have hAl := F7.al
  have hTo := F7.to
  have hE := F7.e
  have hT := F7.t
  have hB := F7.b
  have hC := F7.c
  have hH := F7.h
  have hCh := F7.ch
  have hDu := F7.du
  have hZ := F7.z
  have hK := F7.k
  have hDn := F7.dn
  have hBn := F7.bn
  have hTu := F7.tu
  have cellF : ∀ {σ : Sig} {ro : List Addr} {k : Int} {Q : PV → Sig → Prop}, 0 ≤ k → Q (.int (cell ns k)) σ → Fn S fc ro 4 [.ref sa, .int k] σ Q := fun h0 hq =>
    ((cell07 oS hC hs hn hlen h0).room (by decide)).mono fun p σ' ⟨h1, h2⟩ => by rw [h1, h2]; exact hq
  obtain ⟨vs, hLst, hvs⟩ := id hs
  have hvl : vs.length = ns.length := by rw [hvs.length, List.length_map]
  dsimp only [stAt, PySem.Challenge.pw_pd_stockroom_2_07, List.getElem?_cons_succ, List.getElem?_cons_zero, bodyOf]
  walk_at "sr"
  intro d hd
  have hdP := fresh_ne hd hP0
  walk_at "sr"
  intro e0 he0
  have hde := fresh_ne he0 (Sig.set_self _ _ _)
  have hPe : P ≠ e0 := fresh_ne he0 (by walk_at "sl")
  walk_at "sr"
  refine (laid07 (kvs := []) oS hAl hlist (by walk_at "sl") (by decide) fun la0 hla0 => ?_).room (show 1 ≤ 4 by decide)
  have hdl : d ≠ la0 := fresh_ne hla0 (by walk_at "sl")
  have hel : e0 ≠ la0 := fresh_ne hla0 (by walk_at "sl")
  have hPl : P ≠ la0 := fresh_ne hla0 (by walk_at "sl")
  walk_at "sr"
  intro x0 hx0
  have hlx : la0 ≠ x0 := fresh_ne hx0 (Sig.set_self _ _ _)
  have hdx : d ≠ x0 := fresh_ne hx0 (by walk_at "sl")
  have hex : e0 ≠ x0 := fresh_ne hx0 (by walk_at "sl")
  have hPx : P ≠ x0 := fresh_ne hx0 (by walk_at "sl")
  refine Op2.neSame ok (EqR.lists (n := 0) (ps := []) (by rw [Sig.set_ne _ _ hlx]; exact Sig.set_self _ _ _) (Sig.set_self _ _ _) rfl) (by decide) rfl ?_
  walk_at "sr"
  refine Exs.nil (Exs.gen07 (P := fun σ₁ => At7 σ₁ P d e0 la0 [] []) ⟨by walk_at "sl", by rw [Sig.set_ne _ _ hdx, Sig.set_ne _ _ hdl, Sig.set_ne _ _ hde]; exact Sig.set_self _ _ _, by rw [Sig.set_ne _ _ hex, Sig.set_ne _ _ hel]; exact Sig.set_self _ _ _, by rw [Sig.set_ne _ _ hlx]; exact Sig.set_self _ _ _⟩ ?_)
  clear hd he0 hla0 hx0 hdP hde hPe hdl hel hPl hlx hdx hex hPx hP0
  intro σ₁ h7
  walk_at "sr"
  refine OpN.len_base hLst hvl (by omega) ?_
  walk_at "sr"
  have hq1 : 0 ≤ ((ns.length : Int) + 2) / 3 := Int.ediv_nonneg (by omega) (by decide)
  have hmb : 0 ≤ (if (16 : Int) < ((ns.length : Int) + 2) / 3 then 16 else ((ns.length : Int) + 2) / 3) ∧ (if (16 : Int) < ((ns.length : Int) + 2) / 3 then 16 else ((ns.length : Int) + 2) / 3) ≤ 16 := by split <;> omega
  generalize (if (16 : Int) < ((ns.length : Int) + 2) / 3 then 16 else ((ns.length : Int) + 2) / 3) = deeds at hmb ⊢
  walk_at "srange"
  rw [Int.sub_zero]
  refine ForL.inv _ _ _ (fun i ρ' σ' => ∃ (ea la : Addr) (l : List (Str × Int)), ρ' = Loc.set (Loc.set _ (Str.ofString "entries") (.ref ea)) (Str.ofString "laid") (.ref la) ∧ At7 σ' P d ea la l l ∧ (l.map (·.1)).Nodup ∧ Pos1 l ∧ l.length ≤ i) ⟨e0, la0, [], rfl, h7, by simp, fun _ h => (nomatch h), Nat.le_refl _⟩ ?_ ?_
  · clear h7
    rintro i p ρ' σ' hp ⟨ea, la, l, rfl, h7, hnd, hpos, hll⟩
    obtain ⟨hi, rfl⟩ := intsFrom_get hp
    rw [Int.zero_add]
    refine ⟨_, ⟨.inl rfl, rfl⟩, ?_⟩
    have hi16 : i < 16 := by omega
    walk_at "sr"
    generalize cell ns (3 * (i : Int)) % 12 = kind
    have hb := mod_bounds (cell ns (3 * (i : Int) + 1)) (m := 4) (by decide)
    refine OpS.tab hb.1 hb.2 (by decide) ?_
    generalize pool07.getD (cell ns (3 * (i : Int) + 1) % 4).toNat Str.empty = item
    walk_at "sr"
    have hn1 : 1 ≤ 1 + cell ns (3 * (i : Int) + 2) % 6 := by have := mod_bounds (cell ns (3 * (i : Int) + 2)) (m := 6) (by decide); omega
    generalize 1 + cell ns (3 * (i : Int) + 2) % 6 = n at hn1 ⊢
    walk_at "sr"
    refine (due07 (l := l) (kind := kind) (k := item) (n := n) oS hDu hH hCh hlen h7.e (by omega) hnd hpos hn1 fun e σ₂ hsub he => ?_).room (show 2 ≤ 4 by decide)
    refine ⟨_, ⟨_, rfl, .inl rfl, .inl rfl, .inl rfl, rfl⟩, ?_⟩
    have h8 := h7.sub hsub
    clear h7 hsub
    walk_at "sr"
    refine (done07 (l := l) (kind := kind) (k := item) (n := n) oS hDn hR hZ hSh hK hT hE hlen hke hve h8.d (by simp [mkC]) (by omega) ?_).room (show 3 ≤ 4 by decide)
    have hnd' := due_nodup (kind := kind) (k := item) (n := n) hnd
    have hpos' := due_pos (kind := kind) (k := item) hnd hpos hn1
    have hlen' := due_length l kind item n
    have hsame := due_same (l := l) (kind := kind) (k := item) (n := n)
    have hVe := fun τ => dueV_eq τ l kind
    generalize dueL l kind item n = l' at he hnd' hpos' hlen' hsame ⊢
    generalize dueE l kind item n = en at hsame ⊢
    generalize dueV l kind = va at hVe ⊢
    walk_at "sr"
    refine Op2.neSame ok (.tup (.cons (.str _ _) (.cons (hVe _) (.nil _)))) (by decide) rfl ?_
    walk_at "sr"
    have hPd : P ≠ d := fun q => by have := h8.p; rw [q, h8.d] at this; cases this
    refine Exs.nil (Exs.gen07 (P := fun σ₃ => At7 σ₃ P d e la l' l) ⟨by rw [Sig.set_ne _ _ hPd]; exact h8.p, Sig.set_self _ _ _, by rw [Sig.set_ne _ _ (Ne.symm (ne_dl h8.d he))]; exact he, by rw [Sig.set_ne _ _ (Ne.symm (ne_dl h8.d h8.a))]; exact h8.a⟩ ?_)
    clear h8 he hVe hPd
    clear σ₂ σ'
    intro σ' h9
    -- laid
    walk_at "sr"
    refine (laid07 (kvs := sd l') oS hAl hlist h9.d (by rw [sd_length]; omega) fun lb hlb => ?_).room (show 1 ≤ 4 by decide)
    rw [sd_pairs]
    have h10 := h9.new hlb (.list (rows l'))
    have hLb : (σ'.set lb (.list (rows l'))) lb = some (.list (rows l')) := Sig.set_self _ _ _
    generalize σ'.set lb (.list (rows l')) = σ₃ at h10 hLb ⊢
    clear h9 hlb
    walk_at "sr"
    refine Op2.neSame ok (EqR.lists hLb h10.e (rows_pure _)) (by decide) rfl ?_
    walk_at "sr"
    refine Exs.nil (Exs.cons (Ex.if (Te.mono (Q₁ := fun b τ => b = false ∧ τ = σ₃) ?_ ?_)))
    · walk_at "sr"
      by_cases hg : en = Str.ofString "gave"
      · rw [if_neg (by simp [hg])]
        exact ⟨rfl, rfl⟩
      · rw [if_pos (by simpa using hg)]
        have hl' := hsame hg
        subst hl'
        walk_at "sr"
        refine Op2.neSame ok (EqR.lists hLb h10.a (rows_pure _)) (by decide) rfl ?_
        walk_at "sr"
        exact ⟨rfl, rfl⟩
    rintro _ _ ⟨rfl, rfl⟩
    refine ifF rfl (Exs.nil ?_)
    -- any
    have hlbP : lb ≠ P := fun q => by have := h10.p; rw [← q, hLb] at this; cases this
    refine Exs.cons (Ex.if (Te.val (Ev.anyGen (Pi := fun s i v => ∃ p, (rows l')[i]? = some p ∧ VR s.heap v p) (n := (rows l').length) (f := fun i => decide (((l'.map (·.2)).getD i 0) < 1)) ok hany (by walk_at "sk") (hG _ hcd) h10.p (by simp [mkC]) hgok rfl hlbP (fun s x => Src.list (x.sig _ _ hLb).2) (fun s x => GElt.below ok (by decide +kernel) rfl (by decide)) ?_)))
    refine OpT.bool ?_
    rw [rows_length, any_none hpos']
    refine ifF rfl (Exs.nil ?_)
    -- count_of
    walk_at "sr"
    refine ((cnt07 (l := l') oS hCo h10.d).room (show 1 ≤ 4 by decide)).mono ?_
    rintro _ _ ⟨rfl, rfl⟩
    walk_at "sr"
    refine ((have07 (P := l') oS hH h10.e).room (show 1 ≤ 4 by decide)).mono ?_
    rintro _ _ ⟨rfl, rfl⟩
    walk_at "sr"
    refine ifF (by simp) (Exs.nil ?_)
    -- total
    walk_at "sr"
    refine ((tot07 (l := l') oS hTo hsum h10.d).room (show 1 ≤ 4 by decide)).mono ?_
    rintro _ _ ⟨rfl, rfl⟩
    walk_at "sr"
    refine ⟨[e], rows l', Iterates.list ok h10.e, by simp [h10.e], by rw [rows_length]; omega, fun g' ok' => ?_⟩
    refine CompL.pure (fun _ => true) pv1 _ _ ?_ ?_
    · intro p hp
      obtain ⟨y, hy, rfl⟩ := List.mem_map.mp hp
      have ok := ok'
      refine ⟨_, ⟨.inl rfl, rfl⟩, LSub.set rfl (LSub.refl _), ⟨rfl, rfl⟩, fun _ => ?_⟩
      walk_at "sq"
      exact ⟨rfl, rfl⟩
    rw [rows_filter_true, rows_pv1, List.nil_append]
    intro c1 hc1
    walk_at "sr"
    refine OpN.sum_list ok (Sig.set_self _ _ _) ?_
    walk_at "sr"
    refine ifF (by simp) (Exs.nil ?_)
    refine Exs.nil ⟨_, _, ?_, Sub.refl _, e, lb, l', rfl, ⟨h10.new hc1 _ |>.p, (h10.new hc1 _).d, (h10.new hc1 _).e, Sub.set hc1 _ _ hLb⟩, hnd', hpos', by omega⟩
    walk_at "slsub"
  · clear h7
    rintro ρ' σ' ⟨ea, la, l, rfl, h7, hnd, hpos, hll⟩
    rw [intsFrom_length] at hll
    have hll' : l.length ≤ 16 := by omega
    walk_at "sr"
    refine (listed07 (l := l) oS hLi hlist (by simp [mkC]) h7.d (by omega) fun b ys hb hp hs' => ?_).room (show 1 ≤ 4 by decide)
    have h8 := h7.new hb (.list (rows (ys.map fun k => (k, (sGet l k).getD 0))))
    walk_at "sr"
    refine (byname07 (l := l) oS hBn hlen h8.e (by omega) fun b2 R σ₂ hsub hRp hRs hb2 => ?_).room (show 1 ≤ 4 by decide)
    have hb₂ := hsub b _ (Sig.set_self _ _ _)
    rw [← listed_eq hnd hp hs' hRp hRs] at hb₂
    refine Op2.neSame ok (EqR.lists hb₂ hb2 (rows_pure _)) (by decide) rfl ?_
    have h9 := h8.sub hsub
    clear h8 h7 hsub hb hb2 hb₂
    walk_at "sr"
    refine Exs.nil (Exs.cons (Ex.if (Te.compare (Ev.listIItems ok (by walk_at "sk") hlist ?_))))
    walk_at "sr"
    refine (by07 (l := l) oS hB h9.d (by omega) fun t T σ₃ hsub hkeys ht hTu' => ?_).room (show 1 ≤ 4 by decide)
    have h10 := h9.sub hsub
    have hTl : T.length ≤ 16 := by
      have h1 := congrArg List.length hkeys
      rw [List.length_map] at h1
      have h2 := cnts_length l
      omega
    refine ⟨t, tEnt T, rfl, ht, by simp [tEnt]; omega, fun b1 hb1 => ?_⟩
    rw [tEnt_pairs]
    have h11 := h10.new hb1 (.list (T.map tRow))
    walk_at "sr"
    refine (turned07 (l := l) oS hTu h11.e (by omega) fun t2 T2 σ₄ hsub4 hk2 ht2 hT2 => ?_).room (show 1 ≤ 4 by decide)
    have hb₄ := hsub4 b1 _ (Sig.set_self _ _ _)
    have hT₄ : ∀ x ∈ T, σ₄ x.2 = some (.list (namesOf l x.1)) := fun x hx => hsub4 _ _ (by
      rw [Sig.set_ne _ _ (fresh_ne hb1 (hTu'.at' x hx))]; exact hTu'.at' x hx)
    refine Op2.neSame ok (.list hb₄ ht2 (eqTurned (namesOf_pure l) (hkeys.trans hk2.symm) hT₄ hT2)) (by decide) rfl ?_
    have h12 := h11.sub hsub4
    walk_at "sr"
    refine Exs.nil ?_
    walk_at "sr"
    refine (laid07 (kvs := sd l) oS hAl hlist h12.d (by rw [sd_length]; omega) fun b5 hb5 => ?_).room (show 1 ≤ 4 by decide)
    rw [sd_pairs]
    have h13 := h12.new hb5 (.list (rows l))
    walk_at "sr"
    refine Op2.neSame ok (EqR.lists (Sig.set_self _ _ _) h13.e (rows_pure _)) (by decide) rfl ?_
    walk_at "sq"
    exact ⟨rfl, h13.p⟩
end SR

open PySem PySem.W PyProof.Rows
set_option Elab.async false
set_option maxRecDepth 100000 in
set_option maxHeartbeats 8000000 in
theorem PySem.Challenge.cw_pd_stockroom_2_07_holds : PySem.Challenge.rw_pd_stockroom_2_07.Holds := by
  w_on; o_law; k_head; (case hw => w_witness2)
  k_fill
  intro w s₀ s₁ mg mb G Y fa o pm cd doc dV kV ho hd hcd hD hmg hg args vals as hpre hlay hrd hwl hlo
  have KX := kIn_of Y
  refine Ground.open G ?_
  intro T B D TE TW
  clear hcd hD
  obtain ⟨c, P, he, B0⟩ := based_of_top T rfl hmg ho hd
  obtain ⟨bm, ob, M⟩ := bmod_of_top T
  wrow_args hpre hlay hrd hwl hlo
  rename PySem.Heap.IsList _ _ _ => hL
  rename PyProof.Rows.IntsAre _ _ => hI
  rename ¬ _ => hlen
  have hG := SR.mg_at T.g (KX 3 _ rfl) rfl
  have oS : (SR.lawS rw_pd_stockroom_2_07.row.prog w s₁ mg mb).Ok := SR.lawS_ok T.g T.b T.nolimit
  have hfa := SR.fa_of ((hG _).symm.trans hmg)
  subst hfa
  clear hmg
  have fL : SR.FnAt (SR.lawS rw_pd_stockroom_2_07.row.prog w s₁ mg mb) (Str.ofString "law") _ (SR.bodyOf (SR.stAt SR.P07 21)) (SR.scopeOf (SR.stAt SR.P07 21)) [Str.ofString "script"] :=
    ⟨_, ⟨(hG _).trans rfl, ⟨_, KX _ _ rfl, rfl⟩, codeRec_of KX rfl⟩, rfl, rfl, rfl, rfl, rfl, SR.len1 fun _ => rfl⟩
  have fR : SR.FnAt (SR.lawS rw_pd_stockroom_2_07.row.prog w s₁ mg mb) (Str.ofString "receive") _ (SR.bodyOf (SR.stAt SR.P07 1)) (SR.scopeOf (SR.stAt SR.P07 1)) [Str.ofString "stock", Str.ofString "item", Str.ofString "n"] :=
    ⟨_, ⟨(hG _).trans rfl, ⟨_, KX _ _ rfl, rfl⟩, codeRec_of KX rfl⟩, rfl, rfl, rfl, rfl, rfl, SR.len3 fun _ _ _ => rfl⟩
  have fS : SR.FnAt (SR.lawS rw_pd_stockroom_2_07.row.prog w s₁ mg mb) (Str.ofString "ship") _ (SR.bodyOf (SR.stAt SR.P07 2)) (SR.scopeOf (SR.stAt SR.P07 2)) [Str.ofString "stock", Str.ofString "item", Str.ofString "n"] :=
    ⟨_, ⟨(hG _).trans rfl, ⟨_, KX _ _ rfl, rfl⟩, codeRec_of KX rfl⟩, rfl, rfl, rfl, rfl, rfl, SR.len3 fun _ _ _ => rfl⟩
  have fCo : SR.FnAt (SR.lawS rw_pd_stockroom_2_07.row.prog w s₁ mg mb) (Str.ofString "count_of") _ (SR.bodyOf (SR.stAt SR.P07 3)) (SR.scopeOf (SR.stAt SR.P07 3)) [Str.ofString "stock", Str.ofString "item"] :=
    ⟨_, ⟨(hG _).trans rfl, ⟨_, KX _ _ rfl, rfl⟩, codeRec_of KX rfl⟩, rfl, rfl, rfl, rfl, rfl, SR.len2 fun _ _ => rfl⟩
  have fLi : SR.FnAt (SR.lawS rw_pd_stockroom_2_07.row.prog w s₁ mg mb) (Str.ofString "listed") _ (SR.bodyOf (SR.stAt SR.P07 4)) (SR.scopeOf (SR.stAt SR.P07 4)) [Str.ofString "stock"] :=
    ⟨_, ⟨(hG _).trans rfl, ⟨_, KX _ _ rfl, rfl⟩, codeRec_of KX rfl⟩, rfl, rfl, rfl, rfl, rfl, SR.len1 fun _ => rfl⟩
  have fAl : SR.FnAt (SR.lawS rw_pd_stockroom_2_07.row.prog w s₁ mg mb) (Str.ofString "as_laid") _ (SR.bodyOf (SR.stAt SR.P07 5)) (SR.scopeOf (SR.stAt SR.P07 5)) [Str.ofString "stock"] :=
    ⟨_, ⟨(hG _).trans rfl, ⟨_, KX _ _ rfl, rfl⟩, codeRec_of KX rfl⟩, rfl, rfl, rfl, rfl, rfl, SR.len1 fun _ => rfl⟩
  have fTo : SR.FnAt (SR.lawS rw_pd_stockroom_2_07.row.prog w s₁ mg mb) (Str.ofString "total") _ (SR.bodyOf (SR.stAt SR.P07 6)) (SR.scopeOf (SR.stAt SR.P07 6)) [Str.ofString "stock"] :=
    ⟨_, ⟨(hG _).trans rfl, ⟨_, KX _ _ rfl, rfl⟩, codeRec_of KX rfl⟩, rfl, rfl, rfl, rfl, rfl, SR.len1 fun _ => rfl⟩
  have fE : SR.FnAt (SR.lawS rw_pd_stockroom_2_07.row.prog w s₁ mg mb) (Str.ofString "emptied") _ (SR.bodyOf (SR.stAt SR.P07 7)) (SR.scopeOf (SR.stAt SR.P07 7)) [Str.ofString "stock"] :=
    ⟨_, ⟨(hG _).trans rfl, ⟨_, KX _ _ rfl, rfl⟩, codeRec_of KX rfl⟩, rfl, rfl, rfl, rfl, rfl, SR.len1 fun _ => rfl⟩
  have fT : SR.FnAt (SR.lawS rw_pd_stockroom_2_07.row.prog w s₁ mg mb) (Str.ofString "take_last") _ (SR.bodyOf (SR.stAt SR.P07 8)) (SR.scopeOf (SR.stAt SR.P07 8)) [Str.ofString "stock"] :=
    ⟨_, ⟨(hG _).trans rfl, ⟨_, KX _ _ rfl, rfl⟩, codeRec_of KX rfl⟩, rfl, rfl, rfl, rfl, rfl, SR.len1 fun _ => rfl⟩
  have fB : SR.FnAt (SR.lawS rw_pd_stockroom_2_07.row.prog w s₁ mg mb) (Str.ofString "by_count") _ (SR.bodyOf (SR.stAt SR.P07 9)) (SR.scopeOf (SR.stAt SR.P07 9)) [Str.ofString "stock"] :=
    ⟨_, ⟨(hG _).trans rfl, ⟨_, KX _ _ rfl, rfl⟩, codeRec_of KX rfl⟩, rfl, rfl, rfl, rfl, rfl, SR.len1 fun _ => rfl⟩
  have fC : SR.FnAt (SR.lawS rw_pd_stockroom_2_07.row.prog w s₁ mg mb) (Str.ofString "_law_cell") _ (SR.bodyOf (SR.stAt SR.P07 12)) (SR.scopeOf (SR.stAt SR.P07 12)) [Str.ofString "script", Str.ofString "at"] :=
    ⟨_, ⟨(hG _).trans rfl, ⟨_, KX _ _ rfl, rfl⟩, codeRec_of KX rfl⟩, rfl, rfl, rfl, rfl, rfl, SR.len2 fun _ _ => rfl⟩
  have fH : SR.FnAt (SR.lawS rw_pd_stockroom_2_07.row.prog w s₁ mg mb) (Str.ofString "_law_have") _ (SR.bodyOf (SR.stAt SR.P07 13)) (SR.scopeOf (SR.stAt SR.P07 13)) [Str.ofString "entries", Str.ofString "item"] :=
    ⟨_, ⟨(hG _).trans rfl, ⟨_, KX _ _ rfl, rfl⟩, codeRec_of KX rfl⟩, rfl, rfl, rfl, rfl, rfl, SR.len2 fun _ _ => rfl⟩
  have fCh : SR.FnAt (SR.lawS rw_pd_stockroom_2_07.row.prog w s₁ mg mb) (Str.ofString "_law_changed") _ (SR.bodyOf (SR.stAt SR.P07 14)) (SR.scopeOf (SR.stAt SR.P07 14)) [Str.ofString "entries", Str.ofString "item", Str.ofString "by"] :=
    ⟨_, ⟨(hG _).trans rfl, ⟨_, KX _ _ rfl, rfl⟩, codeRec_of KX rfl⟩, rfl, rfl, rfl, rfl, rfl, SR.len3 fun _ _ _ => rfl⟩
  have fDu : SR.FnAt (SR.lawS rw_pd_stockroom_2_07.row.prog w s₁ mg mb) (Str.ofString "_law_due") _ (SR.bodyOf (SR.stAt SR.P07 15)) (SR.scopeOf (SR.stAt SR.P07 15)) [Str.ofString "entries", Str.ofString "kind", Str.ofString "item", Str.ofString "n"] :=
    ⟨_, ⟨(hG _).trans rfl, ⟨_, KX _ _ rfl, rfl⟩, codeRec_of KX rfl⟩, rfl, rfl, rfl, rfl, rfl, SR.len4 fun _ _ _ _ => rfl⟩
  have fZ : SR.FnAt (SR.lawS rw_pd_stockroom_2_07.row.prog w s₁ mg mb) (Str.ofString "_law_ship") _ (SR.bodyOf (SR.stAt SR.P07 16)) (SR.scopeOf (SR.stAt SR.P07 16)) [Str.ofString "stock", Str.ofString "item", Str.ofString "n"] :=
    ⟨_, ⟨(hG _).trans rfl, ⟨_, KX _ _ rfl, rfl⟩, codeRec_of KX rfl⟩, rfl, rfl, rfl, rfl, rfl, SR.len3 fun _ _ _ => rfl⟩
  have fK : SR.FnAt (SR.lawS rw_pd_stockroom_2_07.row.prog w s₁ mg mb) (Str.ofString "_law_take") _ (SR.bodyOf (SR.stAt SR.P07 17)) (SR.scopeOf (SR.stAt SR.P07 17)) [Str.ofString "stock"] :=
    ⟨_, ⟨(hG _).trans rfl, ⟨_, KX _ _ rfl, rfl⟩, codeRec_of KX rfl⟩, rfl, rfl, rfl, rfl, rfl, SR.len1 fun _ => rfl⟩
  have fDo : SR.FnAt (SR.lawS rw_pd_stockroom_2_07.row.prog w s₁ mg mb) (Str.ofString "_law_done") _ (SR.bodyOf (SR.stAt SR.P07 18)) (SR.scopeOf (SR.stAt SR.P07 18)) [Str.ofString "stock", Str.ofString "kind", Str.ofString "item", Str.ofString "n"] :=
    ⟨_, ⟨(hG _).trans rfl, ⟨_, KX _ _ rfl, rfl⟩, codeRec_of KX rfl⟩, rfl, rfl, rfl, rfl, rfl, SR.len4 fun _ _ _ _ => rfl⟩
  have fBn : SR.FnAt (SR.lawS rw_pd_stockroom_2_07.row.prog w s₁ mg mb) (Str.ofString "_law_by_name") _ (SR.bodyOf (SR.stAt SR.P07 19)) (SR.scopeOf (SR.stAt SR.P07 19)) [Str.ofString "entries"] :=
    ⟨_, ⟨(hG _).trans rfl, ⟨_, KX _ _ rfl, rfl⟩, codeRec_of KX rfl⟩, rfl, rfl, rfl, rfl, rfl, SR.len1 fun _ => rfl⟩
  have fTu : SR.FnAt (SR.lawS rw_pd_stockroom_2_07.row.prog w s₁ mg mb) (Str.ofString "_law_turned") _ (SR.bodyOf (SR.stAt SR.P07 20)) (SR.scopeOf (SR.stAt SR.P07 20)) [Str.ofString "entries"] :=
    ⟨_, ⟨(hG _).trans rfl, ⟨_, KX _ _ rfl, rfl⟩, codeRec_of KX rfl⟩, rfl, rfl, rfl, rfl, rfl, SR.len1 fun _ => rfl⟩
  have bi : ∀ (x : String) (v : Value), mg (Str.ofString x) = none → bootBuiltins (Str.ofString x) = some v → Str.ofString x ≠ "__name__" → SR.Bi (SR.lawS rw_pd_stockroom_2_07.row.prog w s₁ mg mb) x v := fun x v h1 h2 h3 =>
    ⟨h1, (T.builtins _ h3).trans h2⟩
  have b_len := bi "len" (.builtin "len") ((hG _).trans rfl) (by decide +kernel) (by decide +kernel)
  have b_min := bi "min" (.builtin "min") ((hG _).trans rfl) (by decide +kernel) (by decide +kernel)
  have b_sum := bi "sum" (.builtin "sum") ((hG _).trans rfl) (by decide +kernel) (by decide +kernel)
  have b_any := bi "any" (.builtin "any") ((hG _).trans rfl) (by decide +kernel) (by decide +kernel)
  have b_range := bi "range" (.type "range") ((hG _).trans rfl) (by decide +kernel) (by decide +kernel)
  have b_list := bi "list" (.type "list") ((hG _).trans rfl) (by decide +kernel) (by decide +kernel)
  have b_KeyError := bi "KeyError" (.type "KeyError") ((hG _).trans rfl) (by decide +kernel) (by decide +kernel)
  have b_ValueError := bi "ValueError" (.type "ValueError") ((hG _).trans rfl) (by decide +kernel) (by decide +kernel)
  have oT : (SR.lawT rw_pd_stockroom_2_07.row.prog w s₁ P mg mb).Ok := SR.lawT_ok B0 T.g T.b T.nolimit
  refine SR.law_endT B0 hg (fun _ => rfl) (postW_of rfl (w_eq_bool (w_res rfl) w_lit) rfl) ((SR.law07 oT ((fL.less B0).withCode (SR.lessP_keeps B0 ho (.inr (by rw [hd]; simp))) hd he) ⟨fR.less B0, fS.less B0, fCo.less B0, fLi.less B0, fAl.less B0, fTo.less B0, fE.less B0, fT.less B0, fB.less B0, fC.less B0, fH.less B0, fCh.less B0, fDu.less B0, fZ.less B0, fK.less B0, fDo.less B0, fBn.less B0, fTu.less B0⟩ ((hG _).trans rfl) (SR.VR.mono (SR.lessP_tup B0) ?_) (SR.Script.less B0 ⟨_, hL, SR.vrs_of_ints hI⟩) ?_ b_len.less b_min.less b_sum.less b_any.less b_range.less b_list.less b_KeyError.less b_ValueError.less (fun env h => SR.genOk_of B0 M h) (fun _ => Iff.rfl) (SR.Sig.set_self _ _ _)).room (by decide))
  · exact .tup (vs := [_, _, _, _]) ⟨_, KX _ _ rfl, rfl, _, rfl⟩ (.cons (.str _ _) (.cons (.str _ _) (.cons (.str _ _) (.cons (.str _ _) .nil))))
  · omega
