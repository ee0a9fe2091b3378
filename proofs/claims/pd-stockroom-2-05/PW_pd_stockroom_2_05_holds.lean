import PyProof.Rows.All
import Wide.All
import OpenK.AllK
import Wide.FinOn
import PyProof.DictUpdate
import PyProof.DictItems
import PyProof.DictWalks
import PyProof.WalksMore
import PyProof.DefCall
import PyProof.Cells
import PyProof.CompFree
import PyProof.RaisesMany
import PyProof.RangeIter
import PyProof.CodeObj
import OpenK.KLine
import PyProof.ForAny
import PyProof.WalksPairs
import PyProof.RangeFor
import PyProof.ListIndexNeg
import KE.KItemsList
import KE.KDictList
import PyProof.EqAt
import PyProof.NeKinds
import PyProof.TypeOfCall
import Wide.BridgeG
import KE.KDictSum
import PyProof.Rows.SumGenD
import KE.KPairComp
import PyProof.Rows.SortStr
import PyProof.Rows.SortWalk
import PyProof.SliceMore
import PyProof.ListCopy
import PyProof.ListOps
import PyProof.WalkInts
import PyProof.StrOps
import PyProof.NoPylong
import PyProof.Rows.RuleN_isinstance
import PyProof.DictCopy
import PyProof.Rows.TupAssign
import PyProof.Rows.SumAny
import PyProof.RulesTry
import PyProof.RulesRaise
import PyProof.RaisesAny
import PyProof.RaisesDict
import PyProof.ExcFactsAll.ValueError
import KE.KEqDict
import PyProof.DictDisplay
import PyProof.GenQ
import PyProof.ConsumeS
import PyProof.CodeObjX
import PyProof.Rows.GenRows
import PyProof.Rows.RowBridgeG
import PyProof.DictCompW
import PyProof.Rows.FactsExc_KeyError
import PyProof.Rows.FactsExc_ValueError
import PyProof.Rows.Exc
import PyProof.AttrMissHeap
import PyProof.DictList
import PyProof.Walks
import PyProof.CollectWalk
import KE.KDictOf
import PyProof.Rows.EqNone
import PySem.Challenge.RW_pd_stockroom_2_05
set_option genSizeOf false
set_option genSizeOfSpec false
set_option maxRecDepth 100000
namespace SR
open PySem

/-- abstract values -/
inductive PV where
  | none
  | bool (b : Bool)
  | int (i : Int)
  | str (x : Str)
  | ty (n : String)
  | tup (vs : List PV)
  | ref (a : Addr)

mutual
inductive VR (h : Heap) : Value → PV → Prop
  | none : VR h .none .none
  | bool (b : Bool) : VR h (.bool b) (.bool b)
  | int (i : Int) (t : Tok) : VR h (.int i t) (.int i)
  | str (x : Str) (t : Tok) : VR h (.str x t) (.str x)
  | ty (n : String) : VR h (.type n) (.ty n)
  | tup {a : Addr} {vs : List Value} {pvs : List PV} : h.IsTuple a vs.toArray → VRs h vs pvs → VR h (.ref a) (.tup pvs)
  | ref (a : Addr) : VR h (.ref a) (.ref a)
inductive VRs (h : Heap) : List Value → List PV → Prop
  | nil : VRs h [] []
  | cons {v : Value} {vs : List Value} {p : PV} {ps : List PV} : VR h v p → VRs h vs ps → VRs h (v :: vs) (p :: ps)
end

/-- tuples stay -/
def TupKept (h h' : Heap) : Prop := ∀ a vs, h.IsTuple a vs → h'.IsTuple a vs
theorem TupKept.trans {h₁ h₂ h₃ : Heap} (x : TupKept h₁ h₂) (y : TupKept h₂ h₃) : TupKept h₁ h₃ := fun a vs e => y a vs (x a vs e)

mutual
theorem VR.mono {h h' : Heap} (k : TupKept h h') : ∀ {v : Value} {p : PV}, VR h v p → VR h' v p
  | _, _, .none => .none
  | _, _, .bool b => .bool b
  | _, _, .int i t => .int i t
  | _, _, .str x t => .str x t
  | _, _, .ty n => .ty n
  | _, _, .tup e r => .tup (k _ _ e) (VRs.mono k r)
  | _, _, .ref a => .ref a
theorem VRs.mono {h h' : Heap} (k : TupKept h h') : ∀ {v : List Value} {p : List PV}, VRs h v p → VRs h' v p
  | _, _, .nil => .nil
  | _, _, .cons e r => .cons (VR.mono k e) (VRs.mono k r)
end

theorem VRs.length {h : Heap} : ∀ {vs : List Value} {ps : List PV}, VRs h vs ps → vs.length = ps.length
  | _, _, .nil => rfl
  | _, _, .cons _ r => congrArg (· + 1) r.length
theorem VRs.append {h : Heap} : ∀ {vs ws : List Value} {ps qs : List PV}, VRs h vs ps → VRs h ws qs → VRs h (vs ++ ws) (ps ++ qs)
  | _, _, _, _, .nil, y => y
  | _, _, _, _, .cons e r, y => .cons e (r.append y)
theorem VRs.get {h : Heap} : ∀ {vs : List Value} {ps : List PV}, VRs h vs ps → ∀ (i : Nat) (p : PV), ps[i]? = some p → ∃ v, vs[i]? = some v ∧ VR h v p
  | _, _, .nil, _, _, e => by simp at e
  | _, _, .cons e r, 0, p, q => by simp at q; subst q; exact ⟨_, rfl, e⟩
  | _, _, .cons e r, i + 1, p, q => by simpa using r.get i p (by simpa using q)
theorem VRs.get' {h : Heap} : ∀ {vs : List Value} {ps : List PV}, VRs h vs ps → ∀ (i : Nat) (v : Value), vs[i]? = some v → ∃ p, ps[i]? = some p ∧ VR h v p
  | _, _, .nil, _, _, e => by simp at e
  | _, _, .cons e r, 0, p, q => by simp at q; subst q; exact ⟨_, rfl, e⟩
  | _, _, .cons e r, i + 1, p, q => by simpa using r.get' i p (by simpa using q)
theorem VRs.cons_inv {h : Heap} {vs : List Value} {p : PV} {ps : List PV} (x : VRs h vs (p :: ps)) : ∃ v ws, vs = v :: ws ∧ VR h v p ∧ VRs h ws ps := by
  cases x with
  | cons e r => exact ⟨_, _, rfl, e, r⟩
theorem VRs.nil_inv {h : Heap} {vs : List Value} (x : VRs h vs []) : vs = [] := by cases x; rfl
/-- abstract objects -/
inductive AO where
  | list (vs : List PV)
  | dict (kvs : List (Str × PV))
  | idict (kvs : List (Int × PV))
  | range (lo hi : Int)
  | items (d : Addr)
  | vals (d : Addr)
  | keys (d : Addr)
  | tab (pos : Pos)

abbrev Sig := Addr → Option AO
abbrev Loc := Str → Option PV
def Sig.set (σ : Sig) (a : Addr) (o : AO) : Sig := fun b => if b = a then some o else σ b
def Loc.set (ρ : Loc) (x : Str) (v : PV) : Loc := fun y => if y = x then some v else ρ y
theorem Sig.set_self (σ : Sig) (a : Addr) (o : AO) : (σ.set a o) a = some o := by simp [Sig.set]
theorem Sig.set_ne (σ : Sig) {a b : Addr} (o : AO) (h : b ≠ a) : (σ.set a o) b = σ b := by simp [Sig.set, h]
theorem Sig.set_set (σ : Sig) (a : Addr) (o o' : AO) : (σ.set a o).set a o' = σ.set a o' := by funext b; simp only [Sig.set]; split <;> rfl
theorem Sig.set_comm (σ : Sig) {a b : Addr} (o o' : AO) (h : a ≠ b) : (σ.set a o).set b o' = (σ.set b o').set a o := by
  funext c; simp only [Sig.set]; split <;> split <;> simp_all

/-- what stands still during a law's call -/
structure Sx where
  prog : Program
  w : World
  base : Heap
  mg : Str → Option Value
  mb : Str → Option Value
  os : OsState
  gok : Array GenState → Prop

structure Sx.Ok (S : Sx) : Prop where
  g : S.base.Ns mainGlobals S.mg
  b : S.base.Ns builtinsNs S.mb
  nolimit : S.base.NoLimit

/-- entries stand for -/
inductive DP {K : Type} (h : Heap) : List (K × Value) → List (K × PV) → Prop
  | nil : DP h [] []
  | cons {k : K} {v : Value} {p : PV} {ws : List (K × Value)} {kvs : List (K × PV)} : VR h v p → DP h ws kvs → DP h ((k, v) :: ws) ((k, p) :: kvs)
theorem DP.mono {K : Type} {h h' : Heap} (k : TupKept h h') {ws : List (K × Value)} {kvs : List (K × PV)} (x : DP h ws kvs) : DP h' ws kvs := by
  induction x with
  | nil => exact .nil
  | cons e _ ih => exact .cons (e.mono k) ih
theorem DP.length {K : Type} {h : Heap} {ws : List (K × Value)} {kvs : List (K × PV)} (x : DP h ws kvs) : ws.length = kvs.length := by
  induction x with
  | nil => rfl
  | cons _ _ ih => exact congrArg (· + 1) ih
/-- an object stands for -/
def DRep {K : Type} [DecidableEq K] (h : Heap) {prog : Program} {w : World} (knd : KeyKind prog w K) (a : Addr) (kvs : List (K × PV)) : Prop :=
  (a == sysModules) = false ∧ ∃ ws, h.DictOf knd a ws ∧ DP h ws kvs
def OR (S : Sx) (h : Heap) (a : Addr) : AO → Prop
  | .list ps => ∃ vs : List Value, h.PlainList a vs.toArray ∧ VRs h vs ps
  | .dict kvs => DRep h (strKind S.prog S.w) a kvs
  | .idict kvs => DRep h (intKind S.prog S.w) a kvs
  | .range lo hi => ∃ t u v, IsRange h a lo hi 1 t u v
  | .items d => h.IsItemsView a d
  | .vals d => h.IsValuesView a d
  | .keys d => ∃ o, h.get? a = some o ∧ o.cls = .type "dict_keys" ∧ o.data = .fields #[.ref d]
  | .tab pos => ∃ ps : Array Value, h.get? a = some { cls := .none, data := .fields ps } ∧ (ps = #[] ∨ ∃ c, ps = #[rawInt pos.line, rawInt pos.col, c])

/-- the object is no tuple, no cell -/
theorem OR.there {S : Sx} {h : Heap} {a : Addr} {o : AO} (x : OR S h a o) : ∃ ob, h.get? a = some ob ∧ ob.cls ≠ .type "tuple" ∧ ∀ v, ob.data ≠ .cell v := by
  cases o with
  | list ps => obtain ⟨vs, ⟨n, e⟩, _⟩ := x; exact ⟨_, e, by simp, by simp⟩
  | dict kvs => obtain ⟨_, ws, ⟨ob, es, ep, e, hx, hd, _⟩, _⟩ := x; exact ⟨ob, e, by rw [hx.1]; simp, by rw [hd]; simp⟩
  | idict kvs => obtain ⟨_, ws, ⟨ob, es, ep, e, hx, hd, _⟩, _⟩ := x; exact ⟨ob, e, by rw [hx.1]; simp, by rw [hd]; simp⟩
  | range lo hi => obtain ⟨_, _, _, e⟩ := x; exact ⟨_, e, by simp, by simp⟩
  | items d => obtain ⟨o, e, hc, hd⟩ := x; exact ⟨o, e, by rw [hc]; simp, by rw [hd]; simp⟩
  | vals d => obtain ⟨o, e, hc, hd⟩ := x; exact ⟨o, e, by rw [hc]; simp, by rw [hd]; simp⟩
  | keys d => obtain ⟨o, e, hc, hd⟩ := x; exact ⟨o, e, by rw [hc]; simp, by rw [hd]; simp⟩
  | tab pos => obtain ⟨ps, e, _⟩ := x; exact ⟨_, e, by simp, by simp⟩
theorem OR.at {S : Sx} {h h' : Heap} {a : Addr} {o : AO} (x : OR S h a o) (k : TupKept h h') (e : ∀ ob, h.get? a = some ob → h'.get? a = some ob) : OR S h' a o := by
  cases o with
  | list ps => obtain ⟨vs, ⟨n, q⟩, r⟩ := x; exact ⟨vs, ⟨n, e _ q⟩, r.mono k⟩
  | dict kvs => obtain ⟨z, ws, ⟨ob, es, ep, q, hx⟩, r⟩ := x; exact ⟨z, ws, ⟨ob, es, ep, e _ q, hx⟩, r.mono k⟩
  | idict kvs => obtain ⟨z, ws, ⟨ob, es, ep, q, hx⟩, r⟩ := x; exact ⟨z, ws, ⟨ob, es, ep, e _ q, hx⟩, r.mono k⟩
  | range lo hi => obtain ⟨t, u, v, q⟩ := x; exact ⟨t, u, v, e _ q⟩
  | items d => obtain ⟨o, q, r⟩ := x; exact ⟨o, e _ q, r⟩
  | vals d => obtain ⟨o, q, r⟩ := x; exact ⟨o, e _ q, r⟩
  | keys d => obtain ⟨o, q, r⟩ := x; exact ⟨o, e _ q, r⟩
  | tab pos => obtain ⟨ps, q, r⟩ := x; exact ⟨ps, e _ q, r⟩

/-- a frame's context -/
structure Cx where
  S : Sx
  kd : Str → Option NameKind
  ro : List Addr
  room : Nat
  A : Around
  env : Env
  own : List Addr
  frs : List Env

def fsOf (frs : List Env) : List Addr := frs.filterMap (·.frame)

structure Cx.Ok (C : Cx) : Prop where
  S : C.S.Ok
  hh : C.A.handled = none
  depth : C.A.depth + C.room < recursionLimit
  units : C.A.units + 8 * C.room + 8 < cLine
  kind : C.env.scope.kind = .function
  globals : C.env.globals = mainGlobals
  builtins : C.env.builtins = builtinsNs
  kinds : ∀ x k, C.kd x = some k → C.env.kindOf x = some k
  loc : C.env.locals ∈ C.own
  cells : ∀ x c, C.env.cells.lookup x = some c → C.kd x = some .cell → c ∈ C.own ∧ c ≠ C.env.locals
  apart : ∀ x y c, C.env.cells.lookup x = some c → C.env.cells.lookup y = some c → x = y
  new : ∀ a ∈ C.own, C.S.base.get? a = none
  frames : C.A.frames = some C.frs

/-- where a name of the frame lies -/
def NameAt (C : Cx) (m : Str → Option Value) (h : Heap) (x : Str) (p : PV) : Prop :=
  (C.env.kindOf x = some .local ∧ ∃ v, m x = some v ∧ VR h v p) ∨
  ((C.env.kindOf x = some .cell ∨ (C.env.kindOf x = some .free ∧ (x == ("__classdict__" : Str)) = false)) ∧ ∃ c v, C.env.cells.lookup x = some c ∧ c ≠ C.env.locals ∧ h.IsCell c (some v) ∧ VR h v p)

structure FrRep (C : Cx) (ρ : Loc) (h : Heap) : Prop where
  ns : ∃ m, h.Ns C.env.locals m ∧ ∀ x p, ρ x = some p → NameAt C m h x p
  cells : ∀ x c, C.env.cells.lookup x = some c → ∃ v, h.IsCell c v
  own : ∀ a ∈ C.own, ∃ o, h.get? a = some o ∧ ((∃ es ep, o.data = .dict es ep) ∨ (∃ v, o.data = .cell v))

structure GSt (S : Sx) (frs : List Env) (σ : Sig) (s : Shared) : Prop where
  base : ∀ b o, S.base.get? b = some o → s.heap.get? b = some o
  os : s.os = S.os
  gens : S.gok s.gens
  sig : ∀ a o, σ a = some o → S.base.get? a = none ∧ OR S s.heap a o
  frames : ∀ env ∈ frs, env.scope.kind ≠ .module ∧ ∃ L o, env.frame = some L ∧ S.base.get? L = none ∧ s.heap.get? L = some o ∧ ∃ es ep, o.data = .dict es ep
  offF : ∀ a o, σ a = some o → a ∉ fsOf frs

structure St (C : Cx) (ρ : Loc) (σ : Sig) (s : Shared) : Prop extends GSt C.S C.frs σ s where
  fr : FrRep C ρ s.heap
  off : ∀ a o, σ a = some o → a ∉ C.own

def SameObj (fs : List Addr) (a : Addr) (o o' : Obj) : Prop := o' = o ∨ (a ∈ fs ∧ o'.data = o.data)
theorem SameObj.refl (fs : List Addr) (a : Addr) (o : Obj) : SameObj fs a o o := .inl rfl
theorem SameObj.trans {fs : List Addr} {x : Addr} {a b c : Obj} (p : SameObj fs x a b) (y : SameObj fs x b c) : SameObj fs x a c := by
  rcases p with rfl | ⟨x1, x2⟩
  · exact y
  · rcases y with rfl | ⟨y1, y2⟩
    · exact .inr ⟨x1, x2⟩
    · exact .inr ⟨x1, y2.trans x2⟩
theorem SameObj.data {fs : List Addr} {x : Addr} {a b : Obj} (p : SameObj fs x a b) : b.data = a.data := by
  rcases p with rfl | ⟨_, e⟩
  · rfl
  · exact e

def Kept (D : Addr → Prop) (fs : List Addr) (h h' : Heap) : Prop := ∀ a o, h.get? a = some o → ¬ D a → ∃ o', h'.get? a = some o' ∧ SameObj fs a o o'
theorem Kept.refl (D : Addr → Prop) (fs : List Addr) (h : Heap) : Kept D fs h h := fun _ o e _ => ⟨o, e, .refl _ _ o⟩

/-- what a piece of the frame may change: its own objects, and the signature's that are not read-only -/
def Dom (own ro : List Addr) (σ : Sig) (a : Addr) : Prop := a ∈ own ∨ ((σ a).isSome ∧ a ∉ ro)

structure Stp (own ro fs : List Addr) (σ : Sig) (s : Shared) (σ' : Sig) (s' : Shared) : Prop where
  kept : Kept (Dom own ro σ) fs s.heap s'.heap
  live : ∀ a o, s.heap.get? a = some o → ∃ o', s'.heap.get? a = some o'
  dom : ∀ a, (σ' a).isSome → (σ a).isSome ∨ s.heap.get? a = none
abbrev Step (C : Cx) (σ : Sig) (s : Shared) (σ' : Sig) (s' : Shared) : Prop := Stp C.own C.ro (fsOf C.frs) σ s σ' s'

theorem Stp.refl (own ro fs : List Addr) (σ : Sig) (s : Shared) : Stp own ro fs σ s σ s := ⟨.refl _ _ _, fun _ o e => ⟨o, e⟩, fun _ h => .inl h⟩
theorem Stp.anti {own ro fs : List Addr} {σ σ₁ : Sig} {s s₁ : Shared} (x : Stp own ro fs σ s σ₁ s₁) {a : Addr} (h : s₁.heap.get? a = none) : s.heap.get? a = none := by
  cases e : s.heap.get? a with
  | none => rfl
  | some o => obtain ⟨o', e'⟩ := x.live a o e; rw [h] at e'; cases e'
theorem Stp.trans {own ro fs : List Addr} {σ σ₁ σ₂ : Sig} {s s₁ s₂ : Shared} (x : Stp own ro fs σ s σ₁ s₁) (y : Stp own ro fs σ₁ s₁ σ₂ s₂) : Stp own ro fs σ s σ₂ s₂ := by
  refine ⟨fun a o e nd => ?_, fun a o e => ?_, fun a h => ?_⟩
  · obtain ⟨o₁, e₁, q₁⟩ := x.kept a o e nd
    obtain ⟨o₂, e₂, q₂⟩ := y.kept a o₁ e₁ (by
      rintro (h | ⟨h, hr⟩)
      · exact nd (.inl h)
      · rcases x.dom a h with h | h
        · exact nd (.inr ⟨h, hr⟩)
        · rw [e] at h; cases h)
    exact ⟨o₂, e₂, q₁.trans q₂⟩
  · obtain ⟨o₁, e₁⟩ := x.live a o e
    exact y.live a o₁ e₁
  · rcases y.dom a h with h | h
    · exact x.dom a h
    · exact .inr (x.anti h)

theorem GSt.frame_data {S : Sx} {frs : List Env} {σ : Sig} {s : Shared} (x : GSt S frs σ s) {a : Addr} (h : a ∈ fsOf frs) : ∃ o es ep, s.heap.get? a = some o ∧ o.data = .dict es ep := by
  obtain ⟨env, he, hf⟩ := List.mem_filterMap.mp h
  obtain ⟨_, L, o, hL, _, ho, es, ep, hd⟩ := x.frames env he
  rw [hf] at hL; cases hL
  exact ⟨o, es, ep, ho, hd⟩

/-- tuples are never in a frame's reach -/
theorem St.tup {C : Cx} {ρ : Loc} {σ : Sig} {s : Shared} (x : St C ρ σ s) {h' : Heap} (k : Kept (Dom C.own C.ro σ) (fsOf C.frs) s.heap h') : TupKept s.heap h' := by
  rintro a vs ⟨o, e, hc, n, hd⟩
  obtain ⟨o', e', q⟩ := k a o e (by
    rintro (h | ⟨h, _⟩)
    · obtain ⟨o₁, e₁, q⟩ := x.fr.own a h
      rw [e] at e₁; cases e₁
      rcases q with ⟨_, _, q⟩ | ⟨_, q⟩ <;> rw [hd] at q <;> cases q
    · obtain ⟨ao, hao⟩ := Option.isSome_iff_exists.mp h
      obtain ⟨o₁, e₁, q, _⟩ := (x.sig a ao hao).2.there
      rw [e] at e₁; cases e₁
      exact q hc)
  rcases q with rfl | ⟨q, _⟩
  · exact ⟨_, e', hc, n, hd⟩
  · obtain ⟨o₁, es, ep, e₁, hd₁⟩ := x.frame_data q
    rw [e] at e₁; cases e₁
    rw [hd] at hd₁; cases hd₁

/-- the abstract end of an expression -/
def Post (C : Cx) (ρ : Loc) (σ : Sig) (s : Shared) (Q : PV → Sig → Prop) (v : Value) (s' : Shared) : Prop :=
  ∃ p σ', VR s'.heap v p ∧ St C ρ σ' s' ∧ Step C σ s σ' s' ∧ Q p σ'

structure NewE (s s' : Shared) (e : Addr) (cls : String) : Prop where
  new : s.heap.get? e = none
  there : ∃ ob t, s'.heap.get? e = some ob ∧ ob.cls = .type cls ∧ ob.data = .fields #[t, .none, .none, .none, .bool false, .none]

/-- the abstract end by an exception, made in this very frame -/
def Exc (C : Cx) (σ : Sig) (s : Shared) (X : String → Sig → Prop) (e : Value) (s' : Shared) : Prop :=
  ∃ ea cls σ' ρ', e = .ref ea ∧ NewE s s' ea cls ∧ St C ρ' σ' s' ∧ Step C σ s σ' s' ∧ X cls σ'

theorem Exc.step {C : Cx} {σ σ₁ : Sig} {s s₁ s' : Shared} {X : String → Sig → Prop} {e : Value} (k : Step C σ s σ₁ s₁) (x : Exc C σ₁ s₁ X e s') : Exc C σ s X e s' := by
  obtain ⟨ea, cls, σ', ρ', rfl, ⟨h1, h2⟩, h3, h4, h5⟩ := x
  exact ⟨ea, cls, σ', ρ', rfl, ⟨k.anti h1, h2⟩, h3, k.trans h4, h5⟩

def noX : String → Sig → Prop := fun _ _ => False

/-- the triple of any tree that hands back a value -/
def Tr (C : Cx) (t : Sem Value) (ρ : Loc) (σ : Sig) (Q : PV → Sig → Prop) (X : String → Sig → Prop) : Prop :=
  ∀ s, St C ρ σ s → wpAny (model C.S.prog C.S.w) C.A t (Post C ρ σ s Q) (Exc C σ s X) s
/-- an expression -/
structure Ev (C : Cx) (e : Expr) (ρ : Loc) (σ : Sig) (Q : PV → Sig → Prop) (X : String → Sig → Prop := noX) : Prop where
  run : Tr C (eval e C.env) ρ σ Q X

/-- the abstract flows -/
inductive Fl where
  | next | brk | cont
  | ret (v : PV)
def FR (h : Heap) : Flow → Fl → Prop
  | .next, .next => True
  | .brk, .brk => True
  | .cont, .cont => True
  | .ret v, .ret p => VR h v p
  | _, _ => False

def PostS (C : Cx) (σ : Sig) (s : Shared) (Q : Fl → Loc → Sig → Prop) (f : Flow) (s' : Shared) : Prop :=
  ∃ fl ρ' σ', FR s'.heap f fl ∧ St C ρ' σ' s' ∧ Step C σ s σ' s' ∧ Q fl ρ' σ'
def TrS (C : Cx) (t : Sem Flow) (ρ : Loc) (σ : Sig) (Q : Fl → Loc → Sig → Prop) (X : String → Sig → Prop) : Prop :=
  ∀ s, St C ρ σ s → wpAny (model C.S.prog C.S.w) C.A t (PostS C σ s Q) (Exc C σ s X) s
structure Ex (C : Cx) (st : Stmt) (ρ : Loc) (σ : Sig) (Q : Fl → Loc → Sig → Prop) (X : String → Sig → Prop := noX) : Prop where
  run : TrS C (exec st C.env) ρ σ Q X
structure Exs (C : Cx) (st : List Stmt) (ρ : Loc) (σ : Sig) (Q : Fl → Loc → Sig → Prop) (X : String → Sig → Prop := noX) : Prop where
  run : TrS C (execs st C.env) ρ σ Q X

/-- a test -/
def PostB (C : Cx) (ρ : Loc) (σ : Sig) (s : Shared) (Q : Bool → Sig → Prop) (b : Bool) (s' : Shared) : Prop :=
  ∃ σ', St C ρ σ' s' ∧ Step C σ s σ' s' ∧ Q b σ'
def TrB (C : Cx) (t : Sem Bool) (ρ : Loc) (σ : Sig) (Q : Bool → Sig → Prop) (X : String → Sig → Prop) : Prop :=
  ∀ s, St C ρ σ s → wpAny (model C.S.prog C.S.w) C.A t (PostB C ρ σ s Q) (Exc C σ s X) s
structure Te (C : Cx) (e : Expr) (ρ : Loc) (σ : Sig) (Q : Bool → Sig → Prop) (X : String → Sig → Prop := noX) : Prop where
  run : TrB C (isTrue e C.env (eval e C.env)) ρ σ Q X

end SR

set_option maxRecDepth 100000
namespace SR
open PySem

section
variable {C : Cx} {ρ : Loc} {σ : Sig} {s : Shared}

theorem TupKept.of_ext {h h' : Heap} (hk : ∀ b o, h.get? b = some o → h'.get? b = some o) : TupKept h h' := fun a vs ⟨o, e, r⟩ => ⟨o, hk a o e, r⟩

theorem NameAt.at {m : Str → Option Value} {h h' : Heap} {x : Str} {p : PV} (n : NameAt C m h x p) (k : TupKept h h') (hc : ∀ c v, c ≠ C.env.locals → h.IsCell c v → h'.IsCell c v) : NameAt C m h' x p := by
  rcases n with ⟨h1, v, h2, h3⟩ | ⟨h1, c, v, h2, h4, h5, h6⟩
  · exact .inl ⟨h1, v, h2, h3.mono k⟩
  · exact .inr ⟨h1, c, v, h2, h4, hc c _ h4 h5, h6.mono k⟩

theorem St.tok (x : St C ρ σ s) (t : Nat) : St C ρ σ { s with toks := t } :=
  ⟨⟨x.base, x.os, x.gens, x.sig, x.frames, x.offF⟩, x.fr, x.off⟩
theorem Step.tok (C : Cx) (σ : Sig) (s : Shared) (t : Nat) : Step C σ s σ { s with toks := t } := ⟨.refl _ _ _, fun _ o e => ⟨o, e⟩, fun _ h => .inl h⟩

theorem FrRep.ext {h h' : Heap} (f : FrRep C ρ h) (hk : ∀ b o, h.get? b = some o → h'.get? b = some o) : FrRep C ρ h' := by
  obtain ⟨m, hn, hx⟩ := f.ns
  refine ⟨⟨m, hn.keeps hk, fun x p e => (hx x p e).at (.of_ext hk) fun c v _ y => y.keeps hk⟩, fun x c h1 => ?_, fun a ha => ?_⟩
  · obtain ⟨v, y⟩ := f.cells x c h1; exact ⟨v, y.keeps hk⟩
  · obtain ⟨o, e, r⟩ := f.own a ha; exact ⟨o, hk a o e, r⟩

theorem GSt.ext {S : Sx} {frs : List Env} {h' : Heap} {t : Nat} (x : GSt S frs σ s) (hk : ∀ b o, s.heap.get? b = some o → h'.get? b = some o) : GSt S frs σ { s with heap := h', toks := t } := by
  refine ⟨fun b o e => hk b o (x.base b o e), x.os, x.gens, fun a o e => ⟨(x.sig a o e).1, (x.sig a o e).2.at (.of_ext hk) fun ob q => hk a ob q⟩, fun env he => ?_, x.offF⟩
  obtain ⟨h1, L, o, h2, h3, h4, h5⟩ := x.frames env he
  exact ⟨h1, L, o, h2, h3, hk L o h4, h5⟩
theorem St.ext {h' : Heap} {t : Nat} (x : St C ρ σ s) (hk : ∀ b o, s.heap.get? b = some o → h'.get? b = some o) : St C ρ σ { s with heap := h', toks := t } :=
  ⟨x.toGSt.ext hk, x.fr.ext hk, x.off⟩
theorem Stp.ext {own ro fs : List Addr} {h' : Heap} {t : Nat} (hk : ∀ b o, s.heap.get? b = some o → h'.get? b = some o) : Stp own ro fs σ s σ { s with heap := h', toks := t } :=
  ⟨fun a o e _ => ⟨o, hk a o e, .refl _ _ _⟩, fun a o e => ⟨o, hk a o e⟩, fun _ h => .inl h⟩

theorem GSt.fresh_base {S : Sx} {frs : List Env} (x : GSt S frs σ s) {a : Addr} (ha : s.heap.get? a = none) : S.base.get? a = none := by
  cases e : S.base.get? a with
  | none => rfl
  | some o => rw [x.base a o e] at ha; cases ha
theorem GSt.fresh_fs {S : Sx} {frs : List Env} (x : GSt S frs σ s) {a : Addr} (ha : s.heap.get? a = none) : a ∉ fsOf frs := fun h => by
  obtain ⟨o, _, _, e, _⟩ := x.frame_data h; rw [ha] at e; cases e
theorem St.fresh_own (x : St C ρ σ s) {a : Addr} (ha : s.heap.get? a = none) : a ∉ C.own := fun h => by
  obtain ⟨o, e, _⟩ := x.fr.own a h; rw [ha] at e; cases e
theorem GSt.fresh_sig {S : Sx} {frs : List Env} (x : GSt S frs σ s) {a : Addr} (ha : s.heap.get? a = none) : σ a = none := by
  cases e : σ a with
  | none => rfl
  | some o => obtain ⟨ob, q, _⟩ := (x.sig a o e).2.there; rw [ha] at q; cases q

theorem GSt.alloc {S : Sx} {frs : List Env} {h' : Heap} {t : Nat} {a : Addr} {o : AO} (x : GSt S frs σ s) (hk : ∀ b o, s.heap.get? b = some o → h'.get? b = some o) (ha : s.heap.get? a = none) (hr : OR S h' a o) :
    GSt S frs (σ.set a o) { s with heap := h', toks := t } := by
  have y := x.ext (t := t) hk
  refine ⟨y.base, y.os, y.gens, fun b ob e => ?_, y.frames, fun b ob e => ?_⟩
  · simp only [Sig.set] at e
    split at e
    · next h => subst h; cases e; exact ⟨x.fresh_base ha, hr⟩
    · exact y.sig b ob e
  · simp only [Sig.set] at e
    split at e
    · next h => subst h; exact x.fresh_fs ha
    · exact y.offF b ob e
theorem St.alloc {h' : Heap} {t : Nat} {a : Addr} {o : AO} (x : St C ρ σ s) (hk : ∀ b o, s.heap.get? b = some o → h'.get? b = some o) (ha : s.heap.get? a = none) (hr : OR C.S h' a o) :
    St C ρ (σ.set a o) { s with heap := h', toks := t } := by
  refine ⟨x.toGSt.alloc hk ha hr, x.fr.ext hk, fun b ob e => ?_⟩
  simp only [Sig.set] at e
  split at e
  · next h => subst h; exact x.fresh_own ha
  · exact x.off b ob e
theorem Stp.alloc {own ro fs : List Addr} {h' : Heap} {t : Nat} {a : Addr} {o : AO} (hk : ∀ b o, s.heap.get? b = some o → h'.get? b = some o) (ha : s.heap.get? a = none) :
    Stp own ro fs σ s (σ.set a o) { s with heap := h', toks := t } := by
  refine ⟨fun a o e _ => ⟨o, hk a o e, .refl _ _ _⟩, fun a o e => ⟨o, hk a o e⟩, fun b h => ?_⟩
  simp only [Sig.set] at h
  split at h
  · next e => subst e; exact .inr ha
  · exact .inl h

theorem GSt.not_tup {S : Sx} {frs : List Env} (x : GSt S frs σ s) {a : Addr} {o : AO} (hσ : σ a = some o) (vs : Array Value) : ¬ s.heap.IsTuple a vs := by
  rintro ⟨ob, e, hc, _⟩
  obtain ⟨o₁, e₁, q, _⟩ := (x.sig a o hσ).2.there
  rw [e] at e₁; cases e₁; exact q hc
theorem GSt.upd {S : Sx} {frs : List Env} {h' : Heap} {t : Nat} {a : Addr} {o o' : AO} (x : GSt S frs σ s) (hσ : σ a = some o) (hk : ∀ b o, b ≠ a → s.heap.get? b = some o → h'.get? b = some o) (hr : OR S h' a o') :
    GSt S frs (σ.set a o') { s with heap := h', toks := t } := by
  have tk : TupKept s.heap h' := fun b vs y => by
    by_cases e : b = a
    · subst e; exact (x.not_tup hσ vs y).elim
    · obtain ⟨ob, q, r⟩ := y; exact ⟨ob, hk b ob e q, r⟩
  refine ⟨fun b ob e => hk b ob (fun q => ?_) (x.base b ob e), x.os, x.gens, fun b ob e => ?_, fun env he => ?_, fun b ob e => ?_⟩
  · rw [q, (x.sig a o hσ).1] at e; cases e
  · simp only [Sig.set] at e
    split at e
    · next h => subst h; cases e; exact ⟨(x.sig b o hσ).1, hr⟩
    · next h => exact ⟨(x.sig b ob e).1, (x.sig b ob e).2.at tk fun o₁ q => hk b o₁ h q⟩
  · obtain ⟨h1, L, o₁, h2, h3, h4, h5⟩ := x.frames env he
    refine ⟨h1, L, o₁, h2, h3, hk L o₁ (fun q => ?_) h4, h5⟩
    exact x.offF a o hσ (List.mem_filterMap.mpr ⟨env, he, q ▸ h2⟩)
  · simp only [Sig.set] at e
    split at e
    · next h => subst h; exact x.offF b o hσ
    · exact x.offF b ob e
theorem St.upd {h' : Heap} {t : Nat} {a : Addr} {o o' : AO} (x : St C ρ σ s) (hσ : σ a = some o) (hk : ∀ b o, b ≠ a → s.heap.get? b = some o → h'.get? b = some o) (hr : OR C.S h' a o') (ok : C.Ok) :
    St C ρ (σ.set a o') { s with heap := h', toks := t } := by
  have nown : ∀ b ∈ C.own, b ≠ a := fun b hb q => x.off a o hσ (q ▸ hb)
  have tk : TupKept s.heap h' := fun b vs y => by
    by_cases e : b = a
    · subst e; exact (x.not_tup hσ vs y).elim
    · obtain ⟨ob, q, r⟩ := y; exact ⟨ob, hk b ob e q, r⟩
  have cellk : ∀ c v, s.heap.IsCell c v → h'.IsCell c v := fun c v ⟨ob, q, r⟩ => ⟨ob, hk c ob (fun e => by
    subst e
    obtain ⟨o₁, e₁, _, hc⟩ := (x.sig c o hσ).2.there
    rw [q] at e₁; cases e₁; exact hc v r) q, r⟩
  refine ⟨x.toGSt.upd hσ hk hr, ⟨?_, fun y c h1 => ?_, fun b hb => ?_⟩, fun b ob e => ?_⟩
  · obtain ⟨m, hn, hx⟩ := x.fr.ns
    exact ⟨m, hn.extBut (b := a) (fun b ob hb e => hk b ob hb e) (nown _ ok.loc), fun y p e => (hx y p e).at tk fun c v _ => cellk c v⟩
  · obtain ⟨v, q⟩ := x.fr.cells y c h1; exact ⟨v, cellk c v q⟩
  · obtain ⟨ob, e, r⟩ := x.fr.own b hb; exact ⟨ob, hk b ob (nown b hb) e, r⟩
  · simp only [Sig.set] at e
    split at e
    · next h => subst h; exact x.off b o hσ
    · exact x.off b ob e
theorem Stp.upd {S : Sx} {own ro fs : List Addr} {h' : Heap} {t : Nat} {a : Addr} {o o' : AO} (hσ : σ a = some o) (hro : a ∉ ro) (hk : ∀ b o, b ≠ a → s.heap.get? b = some o → h'.get? b = some o) (hr : OR S h' a o') :
    Stp own ro fs σ s (σ.set a o') { s with heap := h', toks := t } := by
  refine ⟨fun b ob e nd => ?_, fun b ob e => ?_, fun b h => ?_⟩
  · have : b ≠ a := fun q => nd (.inr ⟨by rw [q, hσ]; rfl, q ▸ hro⟩)
    exact ⟨ob, hk b ob this e, .refl _ _ _⟩
  · by_cases q : b = a
    · subst q; obtain ⟨ob', e', _⟩ := hr.there; exact ⟨ob', e'⟩
    · exact ⟨ob, hk b ob q e⟩
  · simp only [Sig.set] at h
    split at h
    · next e => subst e; exact .inl (by rw [hσ]; rfl)
    · exact .inl h

/-- a name is stored -/
theorem St.store {h' : Heap} {t : Nat} {m : Str → Option Value} {x : Str} {v : Value} {p : PV} (y : St C ρ σ s) (ok : C.Ok) (hn : s.heap.Ns C.env.locals m) (hx : ∀ z q, ρ z = some q → NameAt C m s.heap z q)
    (hk : C.env.kindOf x = some .local) (hv : VR s.heap v p) (hn' : h'.Ns C.env.locals (fun z => if z = x then some v else m z)) (hs : Heap.SameBut C.env.locals s.heap h') :
    St C (ρ.set x p) σ { s with heap := h', toks := t } ∧ Step C σ s σ { s with heap := h', toks := t } := by
  have kp : ∀ b o, b ≠ C.env.locals → s.heap.get? b = some o → h'.get? b = some o := fun b o hb e => (hs.2 b hb).trans e
  obtain ⟨oL, es, ep, hL, hd, _⟩ := hn
  have tk : TupKept s.heap h' := fun b vs q => by
    obtain ⟨ob, e, hc, n, r⟩ := q
    refine ⟨ob, kp b ob (fun q => ?_) e, hc, n, r⟩
    subst q; rw [hL] at e; cases e; rw [hd] at r; cases r
  have nσ : ∀ a o, σ a = some o → a ≠ C.env.locals := fun a o e q => y.off a o e (q ▸ ok.loc)
  have liveL : ∃ o', h'.get? C.env.locals = some o' ∧ ∃ es ep, o'.data = .dict es ep := by obtain ⟨o', es', ep', e', hd', _⟩ := hn'; exact ⟨o', e', es', ep', hd'⟩
  refine ⟨⟨⟨fun b ob e => kp b ob (fun q => ?_) (y.base b ob e), y.os, y.gens, fun a o e => ⟨(y.sig a o e).1, (y.sig a o e).2.at tk fun ob q => kp a ob (nσ a o e) q⟩, fun env he => ?_, y.offF⟩, ⟨⟨_, hn', fun z q e => ?_⟩, fun z c h1 => ?_, fun a ha => ?_⟩, y.off⟩, ⟨fun b ob e nd => ?_, fun b ob e => ?_, fun _ h => .inl h⟩⟩
  · rw [q, ok.new _ ok.loc] at e; cases e
  · obtain ⟨h1, L, o₁, h2, h3, h4, h5⟩ := y.frames env he
    by_cases q : L = C.env.locals
    · obtain ⟨o', e', r⟩ := liveL; exact ⟨h1, L, o', h2, h3, q ▸ e', r⟩
    · exact ⟨h1, L, o₁, h2, h3, kp L o₁ q h4, h5⟩
  · simp only [Loc.set] at e
    split at e
    · next h => subst h; cases e; exact .inl ⟨hk, v, by simp, hv.mono tk⟩
    · next h =>
      rcases hx z q e with ⟨h1, u, h2, h3⟩ | ⟨h1, c, u, h2, h4, h5, h6⟩
      · exact .inl ⟨h1, u, by simp [h, h2], h3.mono tk⟩
      · exact .inr ⟨h1, c, u, h2, h4, h5.sameBut hs h4, h6.mono tk⟩
  · obtain ⟨u, q⟩ := y.fr.cells z c h1
    refine ⟨u, q.sameBut hs fun z => ?_⟩
    obtain ⟨oc, ec, dc⟩ := q
    rw [z, hL] at ec; cases ec; rw [hd] at dc; cases dc
  · by_cases q : a = C.env.locals
    · obtain ⟨o', e', r⟩ := liveL; exact ⟨o', q ▸ e', .inl r⟩
    · obtain ⟨o, e, r⟩ := y.fr.own a ha; exact ⟨o, kp a o q e, r⟩
  · exact ⟨ob, kp b ob (fun q => nd (.inl (q ▸ ok.loc))) e, .refl _ _ _⟩
  · by_cases q : b = C.env.locals
    · obtain ⟨o', e', _⟩ := liveL; exact ⟨o', q ▸ e'⟩
    · exact ⟨ob, kp b ob q e⟩

/-- a cell's name is stored -/
theorem St.storeC {h' : Heap} {t : Nat} {x : Str} {v : Value} {p : PV} {c : Addr} (y : St C ρ σ s) (ok : C.Ok)
    (hk : C.env.kindOf x = some .cell) (hkd : C.kd x = some .cell) (hc : C.env.cells.lookup x = some c) (hv : VR s.heap v p) (hn' : h'.IsCell c (some v)) (hs : Heap.SameBut c s.heap h') :
    St C (ρ.set x p) σ { s with heap := h', toks := t } ∧ Step C σ s σ { s with heap := h', toks := t } := by
  have kp : ∀ b o, b ≠ c → s.heap.get? b = some o → h'.get? b = some o := fun b o hb e => (hs.2 b hb).trans e
  obtain ⟨hown, hcL⟩ := ok.cells x c hc hkd
  obtain ⟨v₀, oc, hL, hd⟩ := y.fr.cells x c hc
  have tk : TupKept s.heap h' := fun b vs q => by
    obtain ⟨ob, e, hc, n, r⟩ := q
    refine ⟨ob, kp b ob (fun q => ?_) e, hc, n, r⟩
    subst q; rw [hL] at e; cases e; rw [hd] at r; cases r
  have nσ : ∀ a o, σ a = some o → a ≠ c := fun a o e q => y.off a o e (q ▸ hown)
  have liveL : ∃ o', h'.get? c = some o' ∧ ∃ v, o'.data = .cell v := by obtain ⟨o', e', hd'⟩ := hn'; exact ⟨o', e', _, hd'⟩
  refine ⟨⟨⟨fun b ob e => kp b ob (fun q => ?_) (y.base b ob e), y.os, y.gens, fun a o e => ⟨(y.sig a o e).1, (y.sig a o e).2.at tk fun ob q => kp a ob (nσ a o e) q⟩, fun env he => ?_, y.offF⟩, ⟨?_, fun z d h1 => ?_, fun a ha => ?_⟩, y.off⟩, ⟨fun b ob e nd => ?_, fun b ob e => ?_, fun _ h => .inl h⟩⟩
  · rw [q, ok.new _ hown] at e; cases e
  · obtain ⟨h1, L, o₁, h2, h3, h4, h5⟩ := y.frames env he
    refine ⟨h1, L, o₁, h2, h3, kp L o₁ (fun q => ?_) h4, h5⟩
    subst q; rw [hL] at h4; cases h4; obtain ⟨_, _, h5⟩ := h5; rw [hd] at h5; cases h5
  · obtain ⟨m, hn, hx⟩ := y.fr.ns
    refine ⟨m, hn.sameBut hs (Ne.symm hcL), fun z q e => ?_⟩
    simp only [Loc.set] at e
    split at e
    · next h => subst h; cases e; exact .inr ⟨.inl hk, c, v, hc, hcL, hn', hv.mono tk⟩
    · next h =>
      rcases hx z q e with ⟨h1, u, h2, h3⟩ | ⟨h1, d, u, h2, h4, h5, h6⟩
      · exact .inl ⟨h1, u, h2, h3.mono tk⟩
      · exact .inr ⟨h1, d, u, h2, h4, h5.sameBut hs (fun q => h (ok.apart z x d h2 (q ▸ hc))), h6.mono tk⟩
  · by_cases q : d = c
    · exact ⟨_, q ▸ hn'⟩
    · obtain ⟨u, r⟩ := y.fr.cells z d h1; exact ⟨u, r.sameBut hs q⟩
  · by_cases q : a = c
    · obtain ⟨o', e', r⟩ := liveL; exact ⟨o', q ▸ e', .inr r⟩
    · obtain ⟨o, e, r⟩ := y.fr.own a ha; exact ⟨o, kp a o q e, r⟩
  · exact ⟨ob, kp b ob (fun q => nd (.inl (q ▸ hown))) e, .refl _ _ _⟩
  · by_cases q : b = c
    · obtain ⟨o', e', _⟩ := liveL; exact ⟨o', q ▸ e'⟩
    · exact ⟨ob, kp b ob q e⟩

/-- forget a part of what is known -/
theorem St.drop {ρ₀ : Loc} {σ₀ : Sig} (x : St C ρ σ s) (hρ : ∀ y p, ρ₀ y = some p → ρ y = some p) (hσ : ∀ a o, σ₀ a = some o → σ a = some o) : St C ρ₀ σ₀ s := by
  obtain ⟨m, hn, hx⟩ := x.fr.ns
  exact ⟨⟨x.base, x.os, x.gens, fun a o e => x.sig a o (hσ a o e), x.frames, fun a o e => x.offF a o (hσ a o e)⟩, ⟨⟨m, hn, fun y p e => hx y p (hρ y p e)⟩, x.fr.cells, x.fr.own⟩, fun a o e => x.off a o (hσ a o e)⟩
theorem Stp.dropL {own ro fs : List Addr} {σ₀ σ' : Sig} {s' : Shared} (hσ : ∀ a o, σ₀ a = some o → σ a = some o) (k : Stp own ro fs σ₀ s σ' s') : Stp own ro fs σ s σ' s' := by
  have hd : ∀ a, (σ₀ a).isSome → (σ a).isSome := fun a h => by obtain ⟨o, e⟩ := Option.isSome_iff_exists.mp h; rw [hσ a o e]; rfl
  exact ⟨fun a o e nd => k.kept a o e (fun h => nd (h.imp id fun h => ⟨hd a h.1, h.2⟩)), k.live, fun a h => (k.dom a h).imp (hd a) id⟩
theorem Stp.dropR {own ro fs : List Addr} {σ₀ σ' : Sig} {s' : Shared} (hσ : ∀ a o, σ₀ a = some o → σ' a = some o) (k : Stp own ro fs σ s σ' s') : Stp own ro fs σ s σ₀ s' :=
  ⟨k.kept, k.live, fun a h => k.dom a (by obtain ⟨o, e⟩ := Option.isSome_iff_exists.mp h; rw [hσ a o e]; rfl)⟩
end

/-- one signature says no more than another -/
def Sub (σ₀ σ : Sig) : Prop := ∀ a o, σ₀ a = some o → σ a = some o
theorem Sub.refl (σ : Sig) : Sub σ σ := fun _ _ e => e
theorem Sub.trans {a b c : Sig} (x : Sub a b) (y : Sub b c) : Sub a c := fun p o e => y p o (x p o e)
theorem Sub.set {σ : Sig} {a : Addr} {o : AO} (h : σ a = none) : Sub σ (σ.set a o) := fun b ob e => by
  simp only [Sig.set]; split
  · next q => subst q; rw [h] at e; cases e
  · exact e
theorem Sub.set_both {σ τ : Sig} {a : Addr} {o : AO} (h : Sub σ τ) : Sub (σ.set a o) (τ.set a o) := fun b ob e => by
  simp only [Sig.set] at e ⊢; split
  · next q => subst q; simpa using e
  · next q => simp only [q, if_false] at e; exact h b ob e
section
variable {C : Cx} {ρ : Loc} {σ : Sig} {X X' : String → Sig → Prop}

theorem Post.step {s s₁ : Shared} {σ₁ : Sig} {Q : PV → Sig → Prop} {v : Value} {s' : Shared} (k : Step C σ s σ₁ s₁) (x : Post C ρ σ₁ s₁ Q v s') : Post C ρ σ s Q v s' := by
  obtain ⟨p, σ', h1, h2, h3, h4⟩ := x; exact ⟨p, σ', h1, h2, k.trans h3, h4⟩
theorem PostS.step {s s₁ : Shared} {σ₁ : Sig} {Q : Fl → Loc → Sig → Prop} {f : Flow} {s' : Shared} (k : Step C σ s σ₁ s₁) (x : PostS C σ₁ s₁ Q f s') : PostS C σ s Q f s' := by
  obtain ⟨fl, ρ', σ', h1, h2, h3, h4⟩ := x; exact ⟨fl, ρ', σ', h1, h2, k.trans h3, h4⟩
theorem PostB.step {s s₁ : Shared} {σ₁ : Sig} {Q : Bool → Sig → Prop} {b : Bool} {s' : Shared} (k : Step C σ s σ₁ s₁) (x : PostB C ρ σ₁ s₁ Q b s') : PostB C ρ σ s Q b s' := by
  obtain ⟨σ', h1, h3, h4⟩ := x; exact ⟨σ', h1, k.trans h3, h4⟩

/-- a piece goes on from where another ended -/
theorem wp_on {α : Type} {M : Model} {t : Sem α} {s s₁ : Shared} {σ₁ : Sig} {P P' : α → Shared → Prop} (k : Step C σ s σ₁ s₁) (h : wpAny M C.A t P' (Exc C σ₁ s₁ X) s₁) (hP : ∀ v s', P' v s' → P v s') : wpAny M C.A t P (Exc C σ s X) s₁ :=
  wpAny_mono h hP fun _ _ e => e.step k

theorem Tr.mono {t : Sem Value} {Q Q' : PV → Sig → Prop} (h : Tr C t ρ σ Q X) (hQ : ∀ p σ', Q p σ' → Q' p σ') : Tr C t ρ σ Q' X := fun s x =>
  wpAny_mono (h s x) (fun v s' ⟨p, σ', h1, h2, h3, h4⟩ => ⟨p, σ', h1, h2, h3, hQ p σ' h4⟩) fun _ _ e => e
theorem TrS.mono {t : Sem Flow} {Q Q' : Fl → Loc → Sig → Prop} (h : TrS C t ρ σ Q X) (hQ : ∀ p ρ' σ', Q p ρ' σ' → Q' p ρ' σ') : TrS C t ρ σ Q' X := fun s x =>
  wpAny_mono (h s x) (fun v s' ⟨p, ρ', σ', h1, h2, h3, h4⟩ => ⟨p, ρ', σ', h1, h2, h3, hQ p ρ' σ' h4⟩) fun _ _ e => e
theorem Exc.dropL {σ₀ : Sig} {s s' : Shared} {e : Value} (hσ : Sub σ₀ σ) (x : Exc C σ₀ s X e s') : Exc C σ s X e s' := by
  obtain ⟨a, b, c, d, h1, h2, h3, h4, h5⟩ := x; exact ⟨a, b, c, d, h1, h2, h3, h4.dropL hσ, h5⟩
theorem TrS.drop {t : Sem Flow} {ρ₀ : Loc} {σ₀ : Sig} {Q : Fl → Loc → Sig → Prop} (h : TrS C t ρ₀ σ₀ Q X) (hρ : ∀ y p, ρ₀ y = some p → ρ y = some p) (hσ : Sub σ₀ σ) : TrS C t ρ σ Q X := fun s x =>
  wpAny_mono (h s (x.drop hρ hσ)) (fun _ _ ⟨p, ρ', σ', h1, h2, h3, h4⟩ => ⟨p, ρ', σ', h1, h2, h3.dropL hσ, h4⟩) fun _ _ e => e.dropL hσ
end
end SR

set_option maxRecDepth 100000
set_option linter.unusedVariables false
namespace SR
open PySem

section
variable {C : Cx} {ρ : Loc} {σ : Sig} {X : String → Sig → Prop}

theorem SameObj.ns {fs : List Addr} {a : Addr} {h h' : Heap} {m : Str → Option Value} (hn : h.Ns a m) (k : ∀ o, h.get? a = some o → ∃ o', h'.get? a = some o' ∧ SameObj fs a o o') : h'.Ns a m := by
  obtain ⟨o, es, ep, e, hd, r⟩ := hn
  obtain ⟨o', e', q⟩ := k o e
  exact ⟨o', es, ep, e', q.data.trans hd, r⟩

/-! ends that change nothing but the tokens -/
theorem Post.here {s : Shared} {Q : PV → Sig → Prop} {v : Value} {p : PV} (x : St C ρ σ s) (hv : VR s.heap v p) (h : Q p σ) : Post C ρ σ s Q v s := ⟨p, σ, hv, x, .refl _ _ _ _ _, h⟩
theorem Post.tok {s : Shared} {Q : PV → Sig → Prop} {v : Value} {p : PV} (x : St C ρ σ s) (t : Nat) (hv : VR s.heap v p) (h : Q p σ) : Post C ρ σ s Q v { s with toks := t } := ⟨p, σ, hv, x.tok t, Step.tok _ _ _ _, h⟩
theorem PostB.here {s : Shared} {Q : Bool → Sig → Prop} {b : Bool} (x : St C ρ σ s) (h : Q b σ) : PostB C ρ σ s Q b s := ⟨σ, x, .refl _ _ _ _ _, h⟩

/-! operations -/
structure OpUn (C : Cx) (op : UnaryOp) (a : PV) (ρ : Loc) (σ : Sig) (Q : PV → Sig → Prop) (X : String → Sig → Prop) : Prop where
  run : ∀ s v, St C ρ σ s → VR s.heap v a → wpAny (model C.S.prog C.S.w) C.A (unaryOp op v) (Post C ρ σ s Q) (Exc C σ s X) s
structure OpBin (C : Cx) (op : Operator) (a b : PV) (ρ : Loc) (σ : Sig) (Q : PV → Sig → Prop) (X : String → Sig → Prop) : Prop where
  run : ∀ s v u, St C ρ σ s → VR s.heap v a → VR s.heap u b → wpAny (model C.S.prog C.S.w) C.A (binaryOp op v u) (Post C ρ σ s Q) (Exc C σ s X) s
structure OpCmp (C : Cx) (op : CmpOp) (a b : PV) (ρ : Loc) (σ : Sig) (Q : PV → Sig → Prop) (X : String → Sig → Prop) : Prop where
  run : ∀ s v u, St C ρ σ s → VR s.heap v a → VR s.heap u b → wpAny (model C.S.prog C.S.w) C.A (compareOp op v u) (Post C ρ σ s Q) (Exc C σ s X) s
structure OpT (C : Cx) (a : PV) (ρ : Loc) (σ : Sig) (Q : Bool → Sig → Prop) (X : String → Sig → Prop) : Prop where
  run : ∀ s v, St C ρ σ s → VR s.heap v a → wpAny (model C.S.prog C.S.w) C.A (truthy v) (PostB C ρ σ s Q) (Exc C σ s X) s
structure OpN (C : Cx) (f : Value) (ps : List PV) (ρ : Loc) (σ : Sig) (Q : PV → Sig → Prop) (X : String → Sig → Prop) : Prop where
  run : ∀ s vs, St C ρ σ s → VRs s.heap vs ps → wpAny (model C.S.prog C.S.w) C.A (PySem.call f vs) (Post C ρ σ s Q) (Exc C σ s X) s

/-- a value's piece, then a use of it -/
theorem wp_use {α : Type} {t : Sem Value} {s : Shared} {Q₁ : PV → Sig → Prop} {P : Value → Shared → Prop} (h : wpAny (model C.S.prog C.S.w) C.A t (Post C ρ σ s Q₁) (Exc C σ s X) s)
    (hk : ∀ v s₁ p σ₁, VR s₁.heap v p → St C ρ σ₁ s₁ → Step C σ s σ₁ s₁ → TupKept s.heap s₁.heap → Q₁ p σ₁ → P v s₁) (x : St C ρ σ s) : wpAny (model C.S.prog C.S.w) C.A t P (Exc C σ s X) s :=
  wpAny_mono h (fun v s₁ ⟨p, σ₁, h1, h2, h3, h4⟩ => hk v s₁ p σ₁ h1 h2 h3 (x.tup h3.kept) h4) fun _ _ e => e

theorem Ev.binop {l r : Expr} {op : Operator} {pos : Pos} {Q : PV → Sig → Prop} (h : Ev C l ρ σ (fun a σ₁ => Ev C r ρ σ₁ (fun b σ₂ => OpBin C op a b ρ σ₂ Q X) X) X) : Ev C (.BinOp l op r pos) ρ σ Q X := by
  refine ⟨fun s x => ?_⟩
  refine wpAny_BinOp (wp_use (α := Unit) (h.run s x) (fun va s₁ a σ₁ ra x₁ k₁ t₁ h₁ => ?_) x)
  refine wp_on k₁ (wp_use (α := Unit) (h₁.run s₁ x₁) (fun vb s₂ b σ₂ rb x₂ k₂ t₂ h₂ => ?_) x₁) fun _ _ p => p
  exact wp_on (k₁.trans k₂) (h₂.run s₂ va vb x₂ (ra.mono t₂) rb) fun _ _ p => p.step (k₁.trans k₂)
/-! tests -/
theorem Te.compare {l r : Expr} {op : CmpOp} {pos : Pos} {Q : Bool → Sig → Prop} (h : Ev C l ρ σ (fun a σ₁ => Ev C r ρ σ₁ (fun b σ₂ => OpCmp C op a b ρ σ₂ (fun c σ₃ => OpT C c ρ σ₃ Q X) X) X) X) (hm : behindInMarks op r = false := by rfl) : Te C (.Compare l [op] [r] pos) ρ σ Q X := by
  refine ⟨fun s x => ?_⟩
  refine wpAny_isTrue_Compare1 (wp_use (α := Unit) (h.run s x) (fun va s₁ a σ₁ ra x₁ k₁ t₁ h₁ => ?_) x) hm
  refine wp_on k₁ (wp_use (α := Unit) (h₁.run s₁ x₁) (fun vb s₂ b σ₂ rb x₂ k₂ t₂ h₂ => ?_) x₁) fun _ _ p => p
  refine wp_on (k₁.trans k₂) (wp_use (α := Unit) (h₂.run s₂ va vb x₂ (ra.mono t₂) rb) (fun vc s₃ c σ₃ rc x₃ k₃ t₃ h₃ => ?_) x₂) fun _ _ p => p
  exact wp_on ((k₁.trans k₂).trans k₃) (h₃.run s₃ vc x₃ rc) fun _ _ p => p.step ((k₁.trans k₂).trans k₃)
theorem Te.not {e : Expr} {pos : Pos} {Q : Bool → Sig → Prop} (h : Te C e ρ σ (fun b σ₁ => Q (!b) σ₁) X) : Te C (.UnaryOp .Not e pos) ρ σ Q X := by
  refine ⟨fun s x => ?_⟩
  exact wpAny_isTrue_Not (wpAny_mono (h.run s x) (fun b s₁ ⟨σ₁, h1, h2, h3⟩ => ⟨σ₁, h1, h2, h3⟩) fun _ _ e => e)
/-! constants, names -/
theorem Ev.cint {i : Int} {k : Nat} {pos : Pos} {Q : PV → Sig → Prop} (h : Q (.int i) σ) : Ev C (.Constant (.int i) k pos) ρ σ Q X := ⟨fun s x => wpAny_Constant_int (.tok x _ (.int _ _) h)⟩
theorem Ev.cnone {k : Nat} {pos : Pos} {Q : PV → Sig → Prop} (h : Q .none σ) : Ev C (.Constant .none k pos) ρ σ Q X := ⟨fun s x => wpAny_Constant_none (.here x .none h)⟩
theorem Ev.cbool {b : Bool} {k : Nat} {pos : Pos} {Q : PV → Sig → Prop} (h : Q (.bool b) σ) : Ev C (.Constant (.bool b) k pos) ρ σ Q X := ⟨fun s x => wpAny_Constant_bool (.here x (.bool _) h)⟩
theorem Ev.name {y : Str} {pos : Pos} {p : PV} {Q : PV → Sig → Prop} (ok : C.Ok) (hy : ρ y = some p) (h : Q p σ) (hd : (y == ("__debug__" : Str)) = false := by decide) : Ev C (.Name y pos) ρ σ Q X := by
  refine ⟨fun s x => ?_⟩
  obtain ⟨m, hn, hx⟩ := x.fr.ns
  refine wpAny_Name ?_ hd
  rcases hx y p hy with ⟨h1, v, h2, h3⟩ | ⟨h1, c, v, h2, h4, h5, h6⟩
  · exact wpAny_loadName_local ok.kind h1 hn h2 (.here x h3 h)
  · rcases h1 with h1 | ⟨h1, h7⟩
    · exact wpAny_loadName_cell ok.kind h1 h2 h5 (.here x h6 h)
    · exact wpAny_loadName_free ok.kind h1 h2 h5 (.here x h6 h) h7
/-- a name of the module's -/
theorem Ev.global {y : Str} {pos : Pos} {v : Value} {p : PV} {Q : PV → Sig → Prop} (ok : C.Ok) (hk : C.kd y = some .globalImplicit) (hg : C.S.mg y = some v) (hv : VR C.S.base v p) (h : Q p σ) (hd : (y == ("__debug__" : Str)) = false := by decide) : Ev C (.Name y pos) ρ σ Q X := by
  refine ⟨fun s x => ?_⟩
  refine Calls.Name_function_global ok.kind (ok.kinds y _ hk) (Calls.loadGlobal_global (mg := C.S.mg) ?_ hg (.here x (hv.mono (.of_ext x.base)) h)) hd
  rw [ok.globals]; exact ok.S.g.keeps x.base
theorem wp_builtin {y : Str} {pos : Pos} {v : Value} {s : Shared} {P : Value → Shared → Prop} {E : Value → Shared → Prop} (ok : C.Ok) (x : St C ρ σ s) (hk : C.kd y = some .globalImplicit) (hg : C.S.mg y = Option.none) (hb : C.S.mb y = some v) (h : P v s) (hd : (y == ("__debug__" : Str)) = false := by decide) :
    wpAny (model C.S.prog C.S.w) C.A (eval (.Name y pos) C.env) P E s := by
  refine Calls.Name_function_global ok.kind (ok.kinds y _ hk) (Calls.loadGlobal_builtin (mg := C.S.mg) (mb := C.S.mb) ?_ hg ?_ hb h) hd
  · rw [ok.globals]; exact ok.S.g.keeps x.base
  · rw [ok.builtins]; exact ok.S.b.keeps x.base
theorem wp_global {y : Str} {pos : Pos} {v : Value} {s : Shared} {P : Value → Shared → Prop} {E : Value → Shared → Prop} (ok : C.Ok) (x : St C ρ σ s) (hk : C.kd y = some .globalImplicit) (hg : C.S.mg y = some v) (h : P v s) (hd : (y == ("__debug__" : Str)) = false := by decide) :
    wpAny (model C.S.prog C.S.w) C.A (eval (.Name y pos) C.env) P E s := by
  refine Calls.Name_function_global ok.kind (ok.kinds y _ hk) (Calls.loadGlobal_global (mg := C.S.mg) ?_ hg h) hd
  rw [ok.globals]; exact ok.S.g.keeps x.base
theorem Ev.type {y : Str} {pos : Pos} {n : String} {Q : PV → Sig → Prop} (ok : C.Ok) (hk : C.kd y = some .globalImplicit) (hg : C.S.mg y = Option.none) (hb : C.S.mb y = some (.type n)) (h : Q (.ty n) σ) (hd : (y == ("__debug__" : Str)) = false := by decide) : Ev C (.Name y pos) ρ σ Q X :=
  ⟨fun s x => wp_builtin ok x hk hg hb (.here x (.ty n) h) hd⟩

/-! statements -/
theorem Exs.nil {Q : Fl → Loc → Sig → Prop} (h : Q .next ρ σ) : Exs C [] ρ σ Q X := ⟨fun s x => wpAny_execs_nil ⟨.next, ρ, σ, trivial, x, .refl _ _ _ _ _, h⟩⟩
theorem Exs.cons {st : Stmt} {rest : List Stmt} {Q : Fl → Loc → Sig → Prop} (h : Ex C st ρ σ (fun fl ρ₁ σ₁ => match fl with | .next => Exs C rest ρ₁ σ₁ Q X | fl => Q fl ρ₁ σ₁) X) : Exs C (st :: rest) ρ σ Q X := by
  refine ⟨fun s x => ?_⟩
  refine wpAny_execs_cons (wpAny_mono (h.run s x) (fun f s₁ ⟨fl, ρ₁, σ₁, h1, h2, h3, h4⟩ => ?_) fun _ _ e => e)
  cases fl with
  | next =>
    cases f with
    | next => exact wp_on h3 (h4.run s₁ h2) fun _ _ p => p.step h3
    | _ => exact h1.elim
  | brk =>
    cases f with
    | brk => exact ⟨.brk, ρ₁, σ₁, trivial, h2, h3, h4⟩
    | _ => exact h1.elim
  | cont =>
    cases f with
    | cont => exact ⟨.cont, ρ₁, σ₁, trivial, h2, h3, h4⟩
    | _ => exact h1.elim
  | ret p =>
    cases f with
    | ret v => exact ⟨.ret p, ρ₁, σ₁, h1, h2, h3, h4⟩
    | _ => exact h1.elim
theorem Ex.if {t : Expr} {a b : List Stmt} {pos : Pos} {Q : Fl → Loc → Sig → Prop} (h : Te C t ρ σ (fun c σ₁ => if c then Exs C a ρ σ₁ Q X else Exs C b ρ σ₁ Q X) X) : Ex C (.If t a b pos) ρ σ Q X := by
  refine ⟨fun s x => ?_⟩
  refine wpAny_If (wpAny_mono (h.run s x) (fun c s₁ ⟨σ₁, h1, h2, h3⟩ => ?_) fun _ _ e => e)
  cases c with
  | true => exact wp_on h2 (h3.run s₁ h1) fun _ _ p => p.step h2
  | false => exact wp_on h2 (h3.run s₁ h1) fun _ _ p => p.step h2
theorem Ex.ret {e : Expr} {pos : Pos} {Q : Fl → Loc → Sig → Prop} (h : Ev C e ρ σ (fun p σ₁ => Q (.ret p) ρ σ₁) X) : Ex C (.Return (some e) pos) ρ σ Q X := by
  refine ⟨fun s x => ?_⟩
  exact wpAny_Return_some (wpAny_mono (h.run s x) (fun v s₁ ⟨p, σ₁, h1, h2, h3, h4⟩ => ⟨.ret p, ρ, σ₁, h1, h2, h3, h4⟩) fun _ _ e => e)
def PV.isRef : PV → Bool
  | .ref _ | .tup _ => true
  | _ => false
theorem Ex.expr {e : Expr} {pos : Pos} {Q : Fl → Loc → Sig → Prop} (ok : C.Ok) (h : Ev C e ρ σ (fun p σ₁ => p.isRef = false ∧ Q .next ρ σ₁) X) (hc : swapsWith e Option.none pos.line C.env = pure false := by rfl) : Ex C (.Expr e pos) ρ σ Q X := by
  refine ⟨fun s x => ?_⟩
  refine wpAny_Expr (wpAny_mono (h.run s x) (fun v s₁ ⟨p, σ₁, h1, h2, h3, h4, h5⟩ => ?_) fun _ _ e => e) (by simp [interactive, ok.kind]) hc
  have fin : PostS C σ s Q .next s₁ := ⟨.next, ρ, σ₁, trivial, h2, h3, h5⟩
  cases h1 <;> first | exact fin | cases h4

/-- storing a name -/
theorem wp_store {y : Str} {v : Value} {p : PV} {s : Shared} {P : Unit → Shared → Prop} {E : Value → Shared → Prop} (ok : C.Ok) (x : St C ρ σ s) (hv : VR s.heap v p) (hk : C.kd y = some .local ∨ (C.kd y = some .cell ∧ (C.env.cells.lookup y).isSome))
    (h : ∀ s', St C (ρ.set y p) σ s' → Step C σ s σ s' → P () s') : wpAny (model C.S.prog C.S.w) C.A (storeName C.env y v) P E s := by
  obtain ⟨m, hn, hx⟩ := x.fr.ns
  rcases hk with hk | ⟨hk, hs⟩
  · refine wpAny_storeName_local (ok.kinds y _ hk) hn (fun h' hn' hs' => ?_) (by rw [ok.kind]; rfl)
    obtain ⟨a, b⟩ := x.store (t := s.toks + 1) ok hn hx (ok.kinds y _ hk) hv hn' hs'
    exact h _ a b
  · obtain ⟨c, hc⟩ := Option.isSome_iff_exists.mp hs
    obtain ⟨v₀, hv₀⟩ := x.fr.cells y c hc
    refine wpAny_storeName_cell ok.kind (ok.kinds y _ hk) hc hv₀ fun h' hn' hs' => ?_
    obtain ⟨a, b⟩ := x.storeC (t := s.toks) ok (ok.kinds y _ hk) hk hc hv hn' hs'
    exact h _ a b
def Stores (C : Cx) (y : Str) : Prop := C.kd y = some .local ∨ (C.kd y = some .cell ∧ (C.env.cells.lookup y).isSome)
theorem Ex.assign {y : Str} {e : Expr} {p' pos : Pos} {Q : Fl → Loc → Sig → Prop} (ok : C.Ok) (hk : Stores C y) (h : Ev C e ρ σ (fun p σ₁ => Q .next (ρ.set y p) σ₁) X) (hc : swapsWith e (some (.Name y p')) pos.line C.env = pure false := by rfl) : Ex C (.Assign [.Name y p'] e pos) ρ σ Q X := by
  refine ⟨fun s x => ?_⟩
  refine wpAny_Assign_Name (wp_use (α := Unit) (h.run s x) (fun v s₁ p σ₁ r x₁ k₁ t₁ h₁ => ?_) x) hc
  exact wp_store ok x₁ r hk fun s' x' k' => ⟨.next, _, σ₁, trivial, x', k₁.trans k', h₁⟩
end
end SR

set_option maxRecDepth 100000
set_option linter.unusedVariables false
namespace SR
open PySem

section
variable {C : Cx} {ρ : Loc} {σ : Sig} {X : String → Sig → Prop}

def PostL (C : Cx) (ρ : Loc) (σ : Sig) (s : Shared) (Q : List PV → Sig → Prop) (vs : List Value) (s' : Shared) : Prop :=
  ∃ ps σ', VRs s'.heap vs ps ∧ St C ρ σ' s' ∧ Step C σ s σ' s' ∧ Q ps σ'
def TrL (C : Cx) (ts : List (Bool × Sem Value)) (ρ : Loc) (σ : Sig) (Q : List PV → Sig → Prop) (X : String → Sig → Prop) : Prop :=
  ∀ s, St C ρ σ s → wpAny (model C.S.prog C.S.w) C.A (spliced ts) (PostL C ρ σ s Q) (Exc C σ s X) s
/-- the arguments of a call, the items of a display -/
structure Evs (C : Cx) (es : List Expr) (ρ : Loc) (σ : Sig) (Q : List PV → Sig → Prop) (X : String → Sig → Prop := noX) : Prop where
  run : ∀ pos, TrL C (backTo pos (starEach es C.env)) ρ σ Q X
def noStar : Expr → Bool
  | .Starred .. => false
  | _ => true
theorem starEach_cons {e : Expr} (rest : List Expr) (env : Env) (h : noStar e = true) : starEach (e :: rest) env = (false, eval e env) :: starEach rest env := by
  cases e <;> first | rfl | cases h
theorem Evs.nil {Q : List PV → Sig → Prop} (h : Q [] σ) : Evs C [] ρ σ Q X := ⟨fun pos s x => Calls.spliced_nil ⟨[], σ, .nil, x, .refl _ _ _ _ _, h⟩⟩
theorem Evs.cons {e : Expr} {rest : List Expr} {Q : List PV → Sig → Prop} (h : Ev C e ρ σ (fun p σ₁ => Evs C rest ρ σ₁ (fun ps σ₂ => Q (p :: ps) σ₂) X) X) (hs : noStar e = true := by rfl) : Evs C (e :: rest) ρ σ Q X := by
  refine ⟨fun pos s x => ?_⟩
  rw [starEach_cons rest C.env hs]
  show wpAny _ _ (spliced ((false, eval e C.env) :: backTo pos (starEach rest C.env))) _ _ s
  refine Calls.spliced_cons (wp_use (α := Unit) (h.run s x) (fun v s₁ p σ₁ r x₁ k₁ t₁ h₁ => ?_) x)
  refine wp_on k₁ (h₁.run pos s₁ x₁) fun vs s₂ ⟨ps, σ₂, rs, x₂, k₂, h₂⟩ => ?_
  exact ⟨p :: ps, σ₂, .cons (r.mono (x₁.tup k₂.kept)) rs, x₂, k₁.trans k₂, h₂⟩

/-- arguments without stars -/
theorem starEach_plain : ∀ (es : List Expr) (env : Env) (pos : Pos), es.all noStar = true → ∀ x ∈ backTo pos (starEach es env), x.1 = false
  | [], _, _, _, x, h => by cases h
  | e :: r, env, pos, h, x, hx => by
    rw [List.all_cons, Bool.and_eq_true] at h
    rw [starEach_cons r env h.1] at hx
    rcases List.mem_cons.mp hx with rfl | hx
    · rfl
    · exact starEach_plain r env pos h.2 x hx
theorem evalArgs_all {M : Model} {A : Around} {E : Value → Shared → Prop} {s : Shared} {f : Value} {ts : List (Bool × Sem Value)} {Q : Args → Shared → Prop} (hp : ∀ x ∈ ts, x.1 = false)
    (h : wpAny M A (spliced ts) (fun vs s' => Q ⟨vs, []⟩ s') E s) : wpAny M A (evalArgs f true ts []) Q E s := by
  cases ts with
  | nil =>
    unfold evalArgs
    refine wpAny_bind (wpAny_mono h (fun vs s' q => wpAny_bind (wpAny_pure (wpAny_holding ?_))) fun _ _ e => e)
    simp only [List.all_nil, if_true]
    exact wpAny_bind (wpAny_pure (wpAny_bind (wpAny_pure (wpAny_pure q))))
  | cons t r =>
    obtain ⟨b, x⟩ := t
    obtain rfl : b = false := hp _ List.mem_cons_self
    exact Calls.evalArgs_plain h

/-! a def is called -/
def FnPost (S : Sx) (frs : List Env) (ro : List Addr) (σ : Sig) (s : Shared) (Q : PV → Sig → Prop) (r : Result) (s' : Shared) : Prop :=
  ∃ v p σ', r = .ok (.ret v) ∧ VR s'.heap v p ∧ GSt S frs σ' s' ∧ Stp [] ro (fsOf frs) σ s σ' s' ∧ Q p σ'
/-- room for a call at this depth -/
structure Room (A : Around) (frs : List Env) (room : Nat) : Prop where
  hh : A.handled = none
  depth : A.depth + room < recursionLimit
  units : A.units + 8 * room + 8 < cLine
  frames : A.frames = some frs
def Fn (S : Sx) (fa : Addr) (ro : List Addr) (room : Nat) (ps : List PV) (σ : Sig) (Q : PV → Sig → Prop) : Prop :=
  ∀ (A : Around) (frs : List Env) (s : Shared) (vs : List Value), Room A frs room → GSt S frs σ s → VRs s.heap vs ps →
    codeAny (model S.prog S.w) A (.call (.ref fa) ⟨vs, []⟩) (FnPost S frs ro σ s Q) s

theorem Fn.mono {S : Sx} {fa : Addr} {ro : List Addr} {room : Nat} {ps : List PV} {Q Q' : PV → Sig → Prop} (h : Fn S fa ro room ps σ Q) (hQ : ∀ p σ', Q p σ' → Q' p σ') : Fn S fa ro room ps σ Q' := fun A frs s vs r g v =>
  codeAny_mono (h A frs s vs r g v) fun _ _ ⟨v, p, σ', h1, h2, h3, h4, h5⟩ => ⟨v, p, σ', h1, h2, h3, h4, hQ _ _ h5⟩

theorem Cx.Ok.room' {C : Cx} (ok : C.Ok) : Room C.A C.frs C.room := ⟨ok.hh, ok.depth, ok.units, ok.frames⟩

theorem St.call {σ' : Sig} {s s' : Shared} (x : St C ρ σ s) (ok : C.Ok) (g : GSt C.S C.frs σ' s') (k : Stp [] C.ro (fsOf C.frs) σ s σ' s') : St C ρ σ' s' ∧ Step C σ s σ' s' := by
  have k' : Step C σ s σ' s' := ⟨fun a o e nd => k.kept a o e fun h => nd (h.elim (fun h => nomatch h) .inr), k.live, k.dom⟩
  have tk := x.tup k'.kept
  have own : ∀ a o, a ∈ C.own → s.heap.get? a = some o → ∃ o', s'.heap.get? a = some o' ∧ SameObj (fsOf C.frs) a o o' := fun a o ha e => k.kept a o e (by
    rintro (h | ⟨h, _⟩)
    · cases h
    · obtain ⟨ao, h⟩ := Option.isSome_iff_exists.mp h; exact x.off a ao h ha)
  have cellk : ∀ c v, s.heap.IsCell c v → s'.heap.IsCell c v := fun c v ⟨o, e, hd⟩ => by
    obtain ⟨o', e', q⟩ := k.kept c o e (by
      rintro (h | ⟨h, _⟩)
      · cases h
      · obtain ⟨ao, h⟩ := Option.isSome_iff_exists.mp h
        obtain ⟨o₁, e₁, _, hc⟩ := (x.sig c ao h).2.there
        rw [e] at e₁; cases e₁; exact hc v hd)
    exact ⟨o', e', q.data.trans hd⟩
  refine ⟨⟨g, ⟨?_, fun y c h1 => ?_, fun a ha => ?_⟩, fun a o e ha => ?_⟩, k'⟩
  · obtain ⟨m, hn, hx⟩ := x.fr.ns
    exact ⟨m, SameObj.ns hn fun o e => own _ o ok.loc e, fun y p e => (hx y p e).at tk fun c v _ => cellk c v⟩
  · obtain ⟨v, q⟩ := x.fr.cells y c h1; exact ⟨v, cellk c v q⟩
  · obtain ⟨o, e, r⟩ := x.fr.own a ha
    obtain ⟨o', e', q⟩ := own a o ha e
    exact ⟨o', e', r.imp (fun ⟨es, ep, h⟩ => ⟨es, ep, q.data.trans h⟩) fun ⟨v, h⟩ => ⟨v, q.data.trans h⟩⟩
  · rcases k.dom a (by rw [e]; rfl) with h | h
    · obtain ⟨ao, h⟩ := Option.isSome_iff_exists.mp h; exact x.off a ao h ha
    · exact x.fresh_own h ha

/-- a def that stands in the module -/
structure IsFn (S : Sx) (f : Str) (fa : Addr) (fd : FuncData) : Prop where
  glob : S.mg f = some (.ref fa)
  there : ∃ o, S.base.get? fa = some o ∧ o.data = .func fd
  code : S.base.CodeRec fd.code fd.qualname

theorem Ev.call {f : Str} {fa : Addr} {fd : FuncData} {np pos : Pos} {args : List Expr} {Q : PV → Sig → Prop} (ok : C.Ok) (hf : IsFn C.S f fa fd) (hk : C.kd f = some .globalImplicit) (h : Evs C args ρ σ (fun ps σ₁ => Fn C.S fa C.ro C.room ps σ₁ Q) X)
    (hs : args.all noStar = true := by rfl) (hd : (f == ("__debug__" : Str)) = false := by decide) : Ev C (.Call (.Name f np) args [] pos) ρ σ Q X := by
  refine ⟨fun s x => ?_⟩
  refine wpAny_Call_ofName (wp_global ok x hk hf.glob ?_ hd)
  obtain ⟨o, ho, hdat⟩ := hf.there
  refine Calls.callWith_function (o := o) (fd := fd) (evalArgs_all (starEach_plain args C.env pos hs) ?_)
  refine wpAny_mono (h.run pos s x) (fun vs s₁ ⟨ps, σ₁, r, x₁, k₁, h₁⟩ => ⟨⟨x₁.base _ _ ho, hdat⟩, ?_⟩) fun _ _ e => e
  refine wpAny_call (codeAny_mono (h₁ C.A C.frs s₁ vs ok.room' x₁.toGSt r) ?_)
  rintro r' s' ⟨v, p, σ', rfl, hv, g, k, hq⟩
  obtain ⟨x', k'⟩ := x₁.call ok g k
  exact ⟨p, σ', hv, x', k₁.trans k', hq⟩

/-- the callee's frame -/
def calleeEnv (fd : FuncData) (L fa : Addr) : Env := newEnv fd.scope L fd.globals (cellsFrom (L + 1) fd.scope.names []) (fd.qualname ++ ".<locals>.") (some fa) fd.code Option.none fd.builtins
def calleeCx (S : Sx) (fd : FuncData) (ro : List Addr) (room : Nat) (A : Around) (frs : List Env) (L fa : Addr) : Cx where
  S := S
  kd := fun x => fd.scope.names.lookup x
  ro := ro
  room := room
  A := A.deeper (calleeEnv fd L fa)
  env := calleeEnv fd L fa
  own := L :: (calleeEnv fd L fa).cells.map (·.2)
  frs := calleeEnv fd L fa :: frs

def Loc.bind (ρ : Loc) : List (Str × PV) → Loc
  | [] => ρ
  | (x, p) :: r => Loc.bind (ρ.set x p) r
def Loc.nil : Loc := fun _ => Option.none

theorem bind_rep {h : Heap} {kindOf : Str → Option NameKind} : ∀ (xs : List Str) (vs : List Value) (ps : List PV) (m cm : Str → Option Value) (ρ : Loc), VRs h vs ps →
    (∀ y p, ρ y = some p → (kindOf y = some .local ∧ ∃ v, m y = some v ∧ VR h v p) ∨ (kindOf y ≠ some .local ∧ ∃ v, cm y = some v ∧ VR h v p)) →
    ∀ y p, ρ.bind (xs.zip ps) y = some p → (kindOf y = some .local ∧ ∃ v, bindL kindOf (xs.zip vs) m y = some v ∧ VR h v p) ∨ (kindOf y ≠ some .local ∧ ∃ v, bindC kindOf (xs.zip vs) cm y = some v ∧ VR h v p)
  | [], vs, ps, m, cm, ρ, _, hρ => by simpa [Loc.bind, bindL, bindC] using hρ
  | x :: xs, _, _, m, cm, ρ, .nil, hρ => by simpa [Loc.bind, bindL, bindC] using hρ
  | x :: xs, v :: vs, p :: ps, m, cm, ρ, .cons e r, hρ => by
    simp only [List.zip_cons_cons, Loc.bind, bindL, bindC]
    refine bind_rep xs vs ps _ _ _ r fun y q hy => ?_
    simp only [Loc.set] at hy
    by_cases hx : kindOf x = some .local
    · simp only [hx, if_true]
      split at hy
      · next h => subst h; cases hy; exact .inl ⟨hx, v, by simp, e⟩
      · next h => simpa [h] using hρ y q hy
    · simp only [hx, if_false]
      split at hy
      · next h => subst h; cases hy; exact .inr ⟨hx, v, by simp, e⟩
      · next h => simpa [h] using hρ y q hy

theorem bind_dom {xs : List Str} : ∀ {ps : List PV} {ρ : Loc} {y : Str} {p : PV}, ρ.bind (xs.zip ps) y = some p → y ∈ xs ∨ ρ y = some p := by
  induction xs with
  | nil => intro ps ρ y p h; exact .inr h
  | cons x xs ih =>
    intro ps ρ y p h
    cases ps with
    | nil => exact .inr h
    | cons q ps =>
      rcases ih h with h | h
      · exact .inl (List.mem_cons_of_mem _ h)
      · simp only [Loc.set] at h
        split at h
        · next e => subst e; exact .inl List.mem_cons_self
        · exact .inr h

theorem Fn.body {S : Sx} {f : Str} {fa : Addr} {fd : FuncData} {body : List Stmt} {xs : List Str} {ro : List Addr} {room : Nat} {ps : List PV} {Q : PV → Sig → Prop} (oS : S.Ok) (hf : IsFn S f fa fd) (hb : fd.body = .stmts body) (hcl : fd.closure = [])
    (hg : fd.globals = mainGlobals) (hbt : fd.builtins = builtinsNs) (hlen : ps.length = xs.length) (hbind : ∀ vs : List Value, vs.length = xs.length → bindArgs fd ⟨vs, []⟩ = pure (xs.zip vs))
    (hx : (xs.all fun x => fd.scope.names.lookup x == some .local || fd.scope.names.lookup x == some .cell) = true)
    (hnd : ((cellsFrom 0 fd.scope.names []).map (·.1)).Nodup)
    (hk : fd.scope.kind = .function) (hco : fd.scope.isCoroutine = false) (hgen : fd.scope.isGenerator = false)
    (h : ∀ A frs L, (calleeCx S fd ro room A frs L fa).Ok → Exs (calleeCx S fd ro room A frs L fa) body (Loc.nil.bind (xs.zip ps)) σ (fun fl _ σ' => Q (match fl with | .ret p => p | _ => .none) σ') noX) :
    Fn S fa ro (room + 1) ps σ Q := by
  intro A frs s vs rm g hv
  obtain ⟨o, ho, hdat⟩ := hf.there
  have hvl : vs.length = xs.length := hv.length.trans hlen
  refine codeAny_call_function (by have := rm.depth; omega) (g.base _ _ ho) hdat hco hgen hb (hf.code.keeps g.base) ?_
  rw [hbind vs hvl]
  refine wpAny_pure ?_
  rw [hcl]
  have hkinds : ∀ n, ∀ x ∈ xs.zip vs, fd.scope.names.lookup x.1 = some .local ∨ (fd.scope.names.lookup x.1 = some .cell ∧ ((cellsFrom n fd.scope.names []).lookup x.1).isSome = true) := fun n x hxm => by
    have h1 := List.all_eq_true.mp hx x.1 (List.of_mem_zip hxm).1
    rcases Bool.or_eq_true_iff.mp h1 with q | q
    · exact .inl (by simpa using q)
    · have q' : fd.scope.names.lookup x.1 = some .cell := by simpa using q
      exact .inr ⟨q', PySem.W.cellsFrom_some _ _ _ (.inl q')⟩
  refine wpAny_newFunctionEnv_cells hk (hkinds _) fun env he s₁ ic => ?_
  have he' : env = calleeEnv fd s.heap.objs.size fa := he
  refine ⟨(oS.nolimit.keeps g.base).keeps ic.toInCall.keep, codeAny_func ?_⟩
  have hL : env.locals = s.heap.objs.size := by rw [he]; rfl
  have hcells : env.cells = cellsFrom (s.heap.objs.size + 1) fd.scope.names [] := by rw [he]; rfl
  obtain ⟨h₁, tk, hs₁, keep⟩ := ic.done
  subst he'
  have g₁ : GSt S frs σ s₁ := by rw [hs₁]; exact g.ext keep
  have freshL : s.heap.get? s.heap.objs.size = Option.none := by
    cases q : s.heap.get? s.heap.objs.size with
    | none => rfl
    | some o' => exact absurd (Heap.lt_size q) (Nat.lt_irrefl _)
  have freshC : ∀ c ∈ (calleeEnv fd s.heap.objs.size fa).cells.map (·.2), s.heap.get? c = Option.none ∧ s.heap.objs.size < c := fun c hc => by
    obtain ⟨⟨n, c'⟩, hm, rfl⟩ := List.mem_map.mp hc
    have := ic.above n c' hm
    rw [hL] at this
    refine ⟨?_, this⟩
    cases q : s.heap.get? c' with
    | none => rfl
    | some o' => exact absurd (Nat.lt_trans (Heap.lt_size q) this) (Nat.lt_irrefl _)
  have freshO : ∀ a ∈ (calleeCx S fd ro room A frs s.heap.objs.size fa).own, s.heap.get? a = Option.none := fun a ha => by
    rcases List.mem_cons.mp ha with rfl | ha
    · exact freshL
    · exact (freshC a ha).1
  have ok : (calleeCx S fd ro room A frs s.heap.objs.size fa).Ok := by
    refine ⟨oS, rm.hh, by show A.depth + 1 + room < _; have := rm.depth; omega, by show A.units + 3 + 8 * room + 8 < _; have := rm.units; omega, hk, hg, hbt, fun x k e => e, List.mem_cons_self, fun x c e _ => ⟨List.mem_cons_of_mem _ (List.mem_map.mpr ⟨(x, c), mem_of_lookup e, rfl⟩), fun q => ?_⟩,
      fun x y c h1 h2 => name_of_addr ic.apart (mem_of_lookup h1) (mem_of_lookup h2), fun a ha => g.fresh_base (freshO a ha), by show (A.frames.map (_ :: ·)) = _; rw [rm.frames]; rfl⟩
    have := ic.above x c (mem_of_lookup e)
    exact absurd (q ▸ this) (Nat.lt_irrefl _)
  have st : St (calleeCx S fd ro room A frs s.heap.objs.size fa) (Loc.nil.bind (xs.zip ps)) σ s₁ := by
    have tk : TupKept s.heap s₁.heap := .of_ext ic.toInCall.keep
    obtain ⟨oL, esL, epL, eL, dL, _⟩ := id ic.toInCall.ns
    refine ⟨⟨g₁.base, g₁.os, g₁.gens, g₁.sig, fun env' hm => ?_, fun a ao e => ?_⟩, ⟨⟨_, ic.toInCall.ns, fun y p e => ?_⟩, fun y c h1 => ⟨_, ic.cell y c h1⟩, fun a ha => ?_⟩, fun a ao e ha => ?_⟩
    · rcases List.mem_cons.mp hm with rfl | hm
      · exact ⟨by show fd.scope.kind ≠ _; rw [hk]; decide, s.heap.objs.size, oL, rfl, g.fresh_base freshL, eL, esL, epL, dL⟩
      · exact g₁.frames env' hm
    · intro hm
      rcases List.mem_cons.mp hm with q | hm
      · obtain ⟨ob, q', _⟩ := (g.sig a ao e).2.there; rw [q, freshL] at q'; cases q'
      · exact g.offF a ao e hm
    · rcases bind_rep (kindOf := (calleeEnv fd s.heap.objs.size fa).kindOf) xs vs ps (fun _ => Option.none) (fun _ => Option.none) Loc.nil (hv.mono tk) (fun y p e => nomatch e) y p e with ⟨h1, v, h2, h3⟩ | ⟨h1, v, h2, h3⟩
      · exact .inl ⟨h1, v, h2, h3⟩
      · rcases bind_dom e with hm | hm
        · have hkx := List.all_eq_true.mp hx y hm
          rcases Bool.or_eq_true_iff.mp hkx with q | q
          · have q' : fd.scope.names.lookup y = some .local := by simpa using q
            exact (h1 q').elim
          · have q' : fd.scope.names.lookup y = some .cell := by simpa using q
            obtain ⟨c, hc⟩ := Option.isSome_iff_exists.mp (PySem.W.cellsFrom_some fd.scope.names (s.heap.objs.size + 1) [] (.inl q'))
            have := ic.cell y c hc
            rw [h2] at this
            exact .inr ⟨.inl q', c, v, hc, (ok.cells y c hc q').2, this, h3⟩
        · cases hm
    · rcases List.mem_cons.mp ha with rfl | ha
      · exact ⟨oL, eL, .inl ⟨esL, epL, dL⟩⟩
      · obtain ⟨⟨n, c⟩, hm, rfl⟩ := List.mem_map.mp ha
        have hnd' : ((calleeEnv fd s.heap.objs.size fa).cells.map (·.1)).Nodup := by
          rw [hcells]; exact PyProof.Rows.cellsFrom_names fd.scope.names 0 (s.heap.objs.size + 1) [] [] rfl ▸ hnd
        obtain ⟨oc, ec, dc⟩ := ic.cell n c (PyProof.Rows.lookup_of_mem_nodup hnd' hm)
        exact ⟨oc, ec, .inr ⟨_, dc⟩⟩
    · obtain ⟨ob, q', _⟩ := (g.sig a ao e).2.there; rw [freshO a ha] at q'; cases q'
  refine wpAny_mono ((h A frs s.heap.objs.size ok).run s₁ st) (fun fl s₂ ⟨fl', ρ', σ', h1, h2, h3, h4⟩ => ?_) fun e s₂ ⟨_, _, _, _, _, _, _, _, q⟩ => q.elim
  have val : ∃ p, VR s₂.heap (match fl with | .ret v => v | _ => .none) p ∧ Q p σ' := by
    cases fl' with
    | ret p => cases fl with
      | ret v => exact ⟨p, h1, h4⟩
      | _ => exact h1.elim
    | next => cases fl with
      | next => exact ⟨.none, .none, h4⟩
      | _ => exact h1.elim
    | brk => cases fl with
      | brk => exact ⟨.none, .none, h4⟩
      | _ => exact h1.elim
    | cont => cases fl with
      | cont => exact ⟨.none, .none, h4⟩
      | _ => exact h1.elim
  obtain ⟨p, hp, hq⟩ := val
  refine ⟨_, p, σ', rfl, hp, ⟨h2.base, h2.os, h2.gens, h2.sig, fun env' hm => h2.frames env' (List.mem_cons_of_mem _ hm), fun a ao e hm => h2.offF a ao e ?_⟩, ⟨fun a ob e nd => ?_, fun a ob e => ?_, fun a hs => ?_⟩, hq⟩
  · obtain ⟨env', he', hf'⟩ := List.mem_filterMap.mp hm
    exact List.mem_filterMap.mpr ⟨env', List.mem_cons_of_mem _ he', hf'⟩
  · obtain ⟨o', e', q⟩ := h3.kept a ob (ic.toInCall.keep a ob e) (by
      rintro (hm | hm)
      · rw [freshO a hm] at e; cases e
      · exact nd (.inr hm))
    refine ⟨o', e', q.imp id fun ⟨hm, hd⟩ => ⟨?_, hd⟩⟩
    rcases List.mem_cons.mp hm with q | hm
    · rw [q, freshL] at e; cases e
    · exact hm
  · exact h3.live a ob (ic.toInCall.keep a ob e)
  · rcases h3.dom a hs with q | q
    · exact .inl q
    · cases e : s.heap.get? a with
      | none => exact .inr rfl
      | some ob => rw [ic.toInCall.keep a ob e] at q; cases q
end
end SR

set_option maxRecDepth 100000
set_option linter.unusedVariables false
namespace SR
open PySem

/-- an iterator that yields the values ps; fp: what it stands on -/
structure AIter (prog : Program) (w : World) (A : Around) (I : Addr) (tgt : Expr) (fp : List Addr) (J : List PV → Heap → Prop) : Prop where
  frame : ∀ ps h h', J ps h → TupKept h h' → (∀ b ∈ fp, ∀ o, h.get? b = some o → h'.get? b = some o) → J ps h'
  next : ∀ p ps (s : Shared) (Q : Value → Shared → Prop) (E : Value → Shared → Prop), J (p :: ps) s.heap →
    (∀ v h' tk, VR h' v p → J ps h' → (∀ b o, b ≠ I → s.heap.get? b = some o → h'.get? b = some o) → Q v { s with heap := h', toks := tk }) →
    wpAny (model prog w) A (pyNext (.ref I)) (fun r s₁ => match r with | none => False | some v => wpAny (model prog w) A (letOwnedTupleGo tgt (.ref I) v) (fun _ s₂ => Q v s₂) E s₁) E s
  stop : ∀ (s : Shared) (Q : Shared → Prop) (E : Value → Shared → Prop), J [] s.heap →
    (∀ h' tk, (∀ b o, b ≠ I → s.heap.get? b = some o → h'.get? b = some o) → Q { s with heap := h', toks := tk }) →
    wpAny (model prog w) A (pyNext (.ref I)) (fun r s₁ => match r with | none => Q s₁ | some _ => False) E s
  self : ∀ ps (s : Shared) (Q : Value → Shared → Prop) (E : Value → Shared → Prop), J ps s.heap → Q (.ref I) s → wpAny (model prog w) A (pyIter (.ref I)) Q E s
  there : ∀ ps h, J ps h → ∀ b ∈ fp, ∃ o, h.get? b = some o
  mine : I ∈ fp
  notup : ∀ ps h, J ps h → ∀ vs, ¬ h.IsTuple I vs

/-- b lies out of reach -/
def Off (C : Cx) (σ : Sig) (b : Addr) : Prop := b ∉ C.own ∧ b ∉ fsOf C.frs ∧ (b ∈ C.ro ∨ σ b = none)

section
variable {C : Cx} {ρ : Loc} {σ : Sig} {X : String → Sig → Prop}

theorem Off.step {s s' : Shared} {σ' : Sig} {b : Addr} (h : Off C σ b) (k : Step C σ s σ' s') (he : ∃ o, s.heap.get? b = some o) : Off C σ' b := by
  refine ⟨h.1, h.2.1, h.2.2.imp id fun h' => ?_⟩
  cases e : σ' b with
  | none => rfl
  | some o =>
    rcases k.dom b (by rw [e]; rfl) with q | q
    · rw [h'] at q; cases q
    · obtain ⟨o, he⟩ := he; rw [he] at q; cases q
theorem Off.kept {s s' : Shared} {σ' : Sig} {b : Addr} (h : Off C σ b) (k : Step C σ s σ' s') {o : Obj} (e : s.heap.get? b = some o) : s'.heap.get? b = some o := by
  obtain ⟨o', e', q⟩ := k.kept b o e (by
    rintro (hm | ⟨hm, hr⟩)
    · exact h.1 hm
    · rcases h.2.2 with q | q
      · exact hr q
      · rw [q] at hm; cases hm)
  rcases q with rfl | ⟨q, _⟩
  · exact e'
  · exact (h.2.1 q).elim

/-- a step of something out of reach -/
theorem St.aside {s : Shared} {h' : Heap} {t : Nat} {I : Addr} (x : St C ρ σ s) (ok : C.Ok) (hI : Off C σ I) (hb : C.S.base.get? I = none) (hro : σ I = none) (hnt : ∀ vs, ¬ s.heap.IsTuple I vs) (hnc : ∀ x c, C.env.cells.lookup x = some c → c ≠ I)
    (hk : ∀ b o, b ≠ I → s.heap.get? b = some o → h'.get? b = some o) : St C ρ σ { s with heap := h', toks := t } := by
  have tk : TupKept s.heap h' := fun b vs y => by
    by_cases e : b = I
    · subst e; exact (hnt vs y).elim
    · obtain ⟨ob, q, r⟩ := y; exact ⟨ob, hk b ob e q, r⟩
  refine ⟨⟨fun b o e => hk b o (fun q => by rw [q, hb] at e; cases e) (x.base b o e), x.os, x.gens, fun a o e => ⟨(x.sig a o e).1, (x.sig a o e).2.at tk fun ob q => hk a ob (fun z => by rw [z, hro] at e; cases e) q⟩, fun env he => ?_, x.offF⟩, ⟨?_, fun y c h1 => ?_, fun a ha => ?_⟩, x.off⟩
  · obtain ⟨h1, L, o₁, h2, h3, h4, h5⟩ := x.frames env he
    exact ⟨h1, L, o₁, h2, h3, hk L o₁ (fun q => hI.2.1 (List.mem_filterMap.mpr ⟨env, he, q ▸ h2⟩)) h4, h5⟩
  · obtain ⟨m, hn, hx⟩ := x.fr.ns
    refine ⟨m, hn.extBut (b := I) (fun b ob hb e => hk b ob hb e) (fun q => hI.1 (q ▸ ok.loc)), fun y p e => ?_⟩
    rcases hx y p e with ⟨h1, u, h2, h3⟩ | ⟨h1, d, u, h2, h4, h5, h6⟩
    · exact .inl ⟨h1, u, h2, h3.mono tk⟩
    · obtain ⟨ob, q, r⟩ := h5
      exact .inr ⟨h1, d, u, h2, h4, ⟨ob, hk d ob (hnc y d h2) q, r⟩, h6.mono tk⟩
  · obtain ⟨u, ob, q, r⟩ := x.fr.cells y c h1; exact ⟨u, ob, hk c ob (hnc y c h1) q, r⟩
  · obtain ⟨o, e, r⟩ := x.fr.own a ha; exact ⟨o, hk a o (fun q => hI.1 (q ▸ ha)) e, r⟩

/-- where a loop lays its item -/
def BindT (C : Cx) : List Expr → List PV → Loc → Loc → Prop
  | [], [], ρ, ρ' => ρ' = ρ
  | .Name x _ :: es, p :: ps, ρ, ρ' => Stores C x ∧ BindT C es ps (ρ.set x p) ρ'
  | _, _, _, _ => False
def Bind1 (C : Cx) (tgt : Expr) (p : PV) (ρ ρ' : Loc) : Prop :=
  match tgt with
  | .Name x _ => Stores C x ∧ ρ' = ρ.set x p
  | .Tuple es _ _ => ∃ ps, p = .tup ps ∧ BindT C es ps ρ ρ'
  | _ => False

/-- the turns of a for, abstractly -/
def ForL (C : Cx) (tgt : Expr) (body : List Stmt) : List PV → Loc → Sig → (Fl → Loc → Sig → Prop) → Prop
  | [], ρ, σ, Q => Q .next ρ σ
  | p :: ps, ρ, σ, Q => ∃ ρ₁, Bind1 C tgt p ρ ρ₁ ∧ Exs C body ρ₁ σ (fun fl ρ₂ σ₂ => match fl with
      | .next | .cont => ForL C tgt body ps ρ₂ σ₂ Q
      | .brk => Q .next ρ₂ σ₂
      | .ret v => Q (.ret v) ρ₂ σ₂) noX

theorem BindT.names : ∀ {es : List Expr} {ps : List PV} {ρ ρ' : Loc} (env : Env), BindT C es ps ρ ρ' → (assignEach es env).length = ps.length ∧ (assignEach es env).findIdx? (·.1) = none
  | [], [], _, _, env, _ => ⟨rfl, rfl⟩
  | .Name x q :: es, p :: ps, ρ, ρ', env, h => by
    obtain ⟨h1, h2⟩ := BindT.names (es := es) (ps := ps) env h.2
    refine ⟨congrArg (· + 1) h1, ?_⟩
    show List.findIdx? _ ((false, assign (.Name x q) env) :: assignEach es env) = none
    rw [List.findIdx?_cons, h2]; rfl
  | [], _ :: _, _, _, _, h => by cases h
  | _ :: _, [], _, _, _, h => by
    unfold BindT at h
    split at h <;> simp_all
  | .BoolOp .. :: _, _ :: _, _, _, _, h => by cases h
  | .NamedExpr .. :: _, _ :: _, _, _, _, h => by cases h
  | .BinOp .. :: _, _ :: _, _, _, _, h => by cases h
  | .UnaryOp .. :: _, _ :: _, _, _, _, h => by cases h
  | .Lambda .. :: _, _ :: _, _, _, _, h => by cases h
  | .IfExp .. :: _, _ :: _, _, _, _, h => by cases h
  | .Dict .. :: _, _ :: _, _, _, _, h => by cases h
  | .Set .. :: _, _ :: _, _, _, _, h => by cases h
  | .ListComp .. :: _, _ :: _, _, _, _, h => by cases h
  | .SetComp .. :: _, _ :: _, _, _, _, h => by cases h
  | .DictComp .. :: _, _ :: _, _, _, _, h => by cases h
  | .GeneratorExp .. :: _, _ :: _, _, _, _, h => by cases h
  | .Await .. :: _, _ :: _, _, _, _, h => by cases h
  | .Yield .. :: _, _ :: _, _, _, _, h => by cases h
  | .YieldFrom .. :: _, _ :: _, _, _, _, h => by cases h
  | .Compare .. :: _, _ :: _, _, _, _, h => by cases h
  | .Call .. :: _, _ :: _, _, _, _, h => by cases h
  | .FormattedValue .. :: _, _ :: _, _, _, _, h => by cases h
  | .JoinedStr .. :: _, _ :: _, _, _, _, h => by cases h
  | .Constant .. :: _, _ :: _, _, _, _, h => by cases h
  | .Attribute .. :: _, _ :: _, _, _, _, h => by cases h
  | .Subscript .. :: _, _ :: _, _, _, _, h => by cases h
  | .Starred .. :: _, _ :: _, _, _, _, h => by cases h
  | .List .. :: _, _ :: _, _, _, _, h => by cases h
  | .Tuple .. :: _, _ :: _, _, _, _, h => by cases h
  | .Slice .. :: _, _ :: _, _, _, _, h => by cases h

theorem wp_assignT (ok : C.Ok) {P : Unit → Shared → Prop} {E : Value → Shared → Prop} : ∀ (es : List Expr) (ps : List PV) (ρ ρ' : Loc) (vs : List Value) (s : Shared), BindT C es ps ρ ρ' → St C ρ σ s → VRs s.heap vs ps →
    (∀ s', St C ρ' σ s' → Step C σ s σ s' → P () s') → wpAny (model C.S.prog C.S.w) C.A (assignInOrder ((assignEach es C.env).map (·.2)) vs) P E s := by
  intro es
  induction es with
  | nil =>
    intro ps ρ ρ' vs s hb x hv h
    cases ps with
    | nil => cases hb; cases hv; exact wpAny_pure (h s x (.refl _ _ _ _ _))
    | cons _ _ => cases hb
  | cons e es ih =>
    intro ps ρ ρ' vs s hb x hv h
    cases ps with
    | nil => unfold BindT at hb; split at hb <;> simp_all
    | cons p ps =>
      cases e with
      | Name y q =>
        cases hv with
        | cons r rs =>
          show wpAny _ _ (do holding _ (assign (.Name y q) C.env _); assignInOrder ((assignEach es C.env).map (·.2)) _) _ _ _
          refine wpAny_bind (wpAny_holding (wpAny_assign_Name (wp_store ok x r hb.1 fun s' x' k' => ?_)))
          exact ih ps _ _ _ s' hb.2 x' (rs.mono (x.tup k'.kept)) fun s'' x'' k'' => h s'' x'' (k'.trans k'')
      | _ => cases hb

theorem wp_assign {tgt : Expr} {v : Value} {p : PV} {ρ' : Loc} {s : Shared} {P : Unit → Shared → Prop} {E : Value → Shared → Prop} (ok : C.Ok) (x : St C ρ σ s) (hv : VR s.heap v p) (hb : Bind1 C tgt p ρ ρ')
    (h : ∀ s', St C ρ' σ s' → Step C σ s σ s' → P () s') : wpAny (model C.S.prog C.S.w) C.A (assign tgt C.env v) P E s := by
  cases tgt with
  | Name y q =>
    obtain ⟨hk, rfl⟩ := hb
    exact wpAny_assign_Name (wp_store ok x hv hk h)
  | Tuple es k pos =>
    obtain ⟨ps, rfl, hb⟩ := hb
    cases hv with
    | tup ht hvs =>
      obtain ⟨h1, h2⟩ := hb.names C.env
      refine PyProof.Rows.assign_Tuple_tuple ok.hh ht (by rw [h1, ← hvs.length]; simp) h2 fun h' he => ?_
      have hk : ∀ b o, s.heap.get? b = some o → h'.get? b = some o := fun b o e => he b o (Nat.ne_of_lt (Heap.lt_size e)) e
      exact wp_assignT ok es ps _ _ _ _ hb (x.ext hk) (hvs.mono (.of_ext hk)) fun s' x' k' => h s' x' ((Stp.ext (t := s.toks) hk).trans k')
  | _ => cases hb

/-- what is asked of an iterator's ground -/
structure Ground (C : Cx) (σ : Sig) (I : Addr) (fp : List Addr) (h : Heap) : Prop where
  off : ∀ b ∈ fp, Off C σ b
  new : C.S.base.get? I = none
  sig : σ I = none
  cell : ∀ x c, C.env.cells.lookup x = some c → c ≠ I

theorem Ground.step {s s' : Shared} {σ' : Sig} {I : Addr} {fp : List Addr} (g : Ground C σ I fp s.heap) (k : Step C σ s σ' s') (ht : ∀ b ∈ fp, ∃ o, s.heap.get? b = some o) (hI : I ∈ fp) : Ground C σ' I fp s'.heap := by
  refine ⟨fun b hb => (g.off b hb).step k (ht b hb), g.new, ?_, g.cell⟩
  cases e : σ' I with
  | none => rfl
  | some o =>
    rcases k.dom I (by rw [e]; rfl) with q | q
    · rw [g.sig] at q; cases q
    · obtain ⟨o, he⟩ := ht I hI; rw [he] at q; cases q

theorem forLoop_sound {tgt : Expr} {body : List Stmt} {Q : Fl → Loc → Sig → Prop} (ok : C.Ok) {I : Addr} {fp : List Addr} {J : List PV → Heap → Prop} (W : AIter C.S.prog C.S.w C.A I tgt fp J) (s₀ : Shared) (σ₀ : Sig) (h0 : s₀.heap.get? I = none)
    (s : Shared) (pvs : List PV) (x : St C ρ σ s) (k₀ : Step C σ₀ s₀ σ s) (hJ : J pvs s.heap) (g : Ground C σ I fp s.heap) (hf : ForL C tgt body pvs ρ σ Q) :
    codeAny (model C.S.prog C.S.w) C.A (.forLoop tgt (.ref I) body [] C.env) (fun r s' => ∃ f, r = .ok f ∧ PostS C σ₀ s₀ Q f s') s := by
  refine codeAny_forLoop_any (fun n s => ∃ pvs ρ σ, n = pvs.length ∧ St C ρ σ s ∧ Step C σ₀ s₀ σ s ∧ J pvs s.heap ∧ Ground C σ I fp s.heap ∧ ForL C tgt body pvs ρ σ Q) ?_ pvs.length ⟨pvs, ρ, σ, rfl, x, k₀, hJ, g, hf⟩
  rintro n s ⟨pvs, ρ, σ, rfl, x, k₀, hJ, g, hf⟩
  have aside : ∀ (h' : Heap) (tk : Nat), (∀ b o, b ≠ I → s.heap.get? b = some o → h'.get? b = some o) → St C ρ σ { s with heap := h', toks := tk } ∧ Step C σ₀ s₀ σ { s with heap := h', toks := tk } := fun h' tk hk => by
    refine ⟨x.aside ok (g.off I W.mine) g.new g.sig (W.notup _ _ hJ) g.cell hk, ⟨fun a o e nd => ?_, fun a o e => ?_, k₀.dom⟩⟩
    · obtain ⟨o', e', q⟩ := k₀.kept a o e nd
      exact ⟨o', hk a o' (fun z => by rw [z, h0] at e; cases e) e', q⟩
    · obtain ⟨o', e'⟩ := k₀.live a o e
      exact ⟨o', hk a o' (fun z => by rw [z, h0] at e; cases e) e'⟩
  cases pvs with
  | nil =>
    refine wpAny_mono (W.stop s (fun s₁ => St C ρ σ s₁ ∧ Step C σ₀ s₀ σ s₁) _ hJ fun h' tk hk => aside h' tk hk) (fun r s₁ hr => ?_) fun _ _ e => e
    cases r with
    | some _ => exact hr.elim
    | none => exact wpAny_execs_nil ⟨.next, rfl, .next, ρ, σ, trivial, hr.1, hr.2, hf⟩
  | cons p ps =>
    obtain ⟨ρ₁, hb, hbody⟩ := hf
    refine wpAny_mono (W.next p ps s (fun v s₁ => VR s₁.heap v p ∧ J ps s₁.heap ∧ St C ρ σ s₁ ∧ Step C σ₀ s₀ σ s₁) _ hJ fun v h' tk hv hJ' hk => ⟨hv, hJ', aside h' tk hk⟩) (fun r s₁ hr => ?_) fun _ _ e => e
    cases r with
    | none => exact hr.elim
    | some v =>
      refine wpAny_mono hr (fun _ s₂ ⟨hv, hJ₂, x₂, k₂⟩ => ?_) fun _ _ e => e
      refine wp_assign ok x₂ hv hb fun s₃ x₃ k₃ => ?_
      refine wpAny_mono (hbody.run s₃ x₃) (fun f s₄ ⟨fl, ρ₄, σ₄, h1, x₄, k₄, h4⟩ => ?_) fun _ _ ⟨_, _, _, _, _, _, _, _, q⟩ => q.elim
      have k₃₄ := k₃.trans k₄
      have th := W.there _ _ hJ₂
      have g₂ : Ground C σ I fp s₂.heap := ⟨g.off, g.new, g.sig, g.cell⟩
      have kk := k₂.trans k₃₄
      have hJ₄ : J ps s₄.heap := W.frame _ _ _ hJ₂ (x₂.tup k₃₄.kept) fun b hb o e => (g₂.off b hb).kept k₃₄ e
      have goon : ForL C tgt body ps ρ₄ σ₄ Q → ∃ m, m < (p :: ps).length ∧ ∃ pvs ρ σ, m = pvs.length ∧ St C ρ σ s₄ ∧ Step C σ₀ s₀ σ s₄ ∧ J pvs s₄.heap ∧ Ground C σ I fp s₄.heap ∧ ForL C tgt body pvs ρ σ Q := fun q =>
        ⟨ps.length, Nat.lt_succ_self _, ps, ρ₄, σ₄, rfl, x₄, kk, hJ₄, g₂.step k₃₄ th W.mine, q⟩
      cases fl with
      | next => cases f with
        | next => exact goon h4
        | _ => exact h1.elim
      | cont => cases f with
        | cont => exact goon h4
        | _ => exact h1.elim
      | brk => cases f with
        | brk => exact ⟨.next, rfl, .next, ρ₄, σ₄, trivial, x₄, kk, h4⟩
        | _ => exact h1.elim
      | ret p => cases f with
        | ret v => exact ⟨.ret v, rfl, .ret p, ρ₄, σ₄, h1, x₄, kk, h4⟩
        | _ => exact h1.elim
end
end SR

set_option maxRecDepth 100000
set_option linter.unusedVariables false
namespace SR
open PySem

/-- objects that stay as they are -/
def Cx.frz (C : Cx) (fz : List Addr) : Cx := { C with ro := fz ++ C.ro }

section
variable {C : Cx} {ρ : Loc} {σ : Sig} {X : String → Sig → Prop}

theorem Cx.Ok.frz (ok : C.Ok) (fz : List Addr) : (C.frz fz).Ok := ⟨ok.S, ok.hh, ok.depth, ok.units, ok.kind, ok.globals, ok.builtins, ok.kinds, ok.loc, ok.cells, ok.apart, ok.new, ok.frames⟩
theorem St.frz {s : Shared} (x : St C ρ σ s) (fz : List Addr) : St (C.frz fz) ρ σ s :=
  ⟨⟨x.base, x.os, x.gens, x.sig, x.frames, x.offF⟩, ⟨x.fr.ns, x.fr.cells, x.fr.own⟩, x.off⟩
theorem St.unfrz {s : Shared} {fz : List Addr} (x : St (C.frz fz) ρ σ s) : St C ρ σ s :=
  ⟨⟨x.base, x.os, x.gens, x.sig, x.frames, x.offF⟩, ⟨x.fr.ns, x.fr.cells, x.fr.own⟩, x.off⟩
theorem Step.unfrz {s s' : Shared} {σ' : Sig} {fz : List Addr} (k : Step (C.frz fz) σ s σ' s') : Step C σ s σ' s' :=
  ⟨fun a o e nd => k.kept a o e fun h => nd (h.imp id fun h => ⟨h.1, fun q => h.2 (List.mem_append_right _ q)⟩), k.live, k.dom⟩

/-- p, as an iterable, yields pvs; while it is walked the objects fz must stay -/
def Iterates (C : Cx) (tgt : Expr) (p : PV) (σ : Sig) (fz : List Addr) (pvs : List PV) : Prop :=
  ∀ (ρ : Loc) (s : Shared) (v : Value) (R : Value → Shared → Prop) (E : Value → Shared → Prop), St C ρ σ s → VR s.heap v p →
    (∀ I fp J h' tk, (∀ b o, s.heap.get? b = some o → h'.get? b = some o) → s.heap.get? I = none → AIter C.S.prog C.S.w C.A I tgt fp J → J pvs h' →
      (∀ b ∈ fp, s.heap.get? b = none ∨ b ∈ fz ∨ ∃ vs, s.heap.IsTuple b vs) → R (.ref I) { s with heap := h', toks := tk }) →
    wpAny (model C.S.prog C.S.w) C.A (pyIter v) R E s

theorem ground_of {fz : List Addr} {I : Addr} {fp : List Addr} {s : Shared} {h' : Heap} {t : Nat} (x : St C ρ σ s) (hI : s.heap.get? I = none) (hfz : ∀ b ∈ fz, ∃ o, σ b = some o) (hfp : ∀ b ∈ fp, s.heap.get? b = none ∨ b ∈ fz ∨ ∃ vs, s.heap.IsTuple b vs) :
    Ground (C.frz fz) σ I fp h' := by
  refine ⟨fun b hb => ?_, x.fresh_base hI, x.fresh_sig hI, fun y c e q => ?_⟩
  · rcases hfp b hb with h | h | ⟨vs, h⟩
    · exact ⟨x.fresh_own h, x.fresh_fs h, .inr (x.fresh_sig h)⟩
    · obtain ⟨o, e⟩ := hfz b h
      exact ⟨x.off b o e, x.offF b o e, .inl (List.mem_append_left _ h)⟩
    · obtain ⟨o, e, hc, n, hd⟩ := h
      refine ⟨fun hm => ?_, fun hm => ?_, .inr ?_⟩
      · obtain ⟨o', e', r⟩ := x.fr.own b hm
        rw [e] at e'; cases e'
        rcases r with ⟨_, _, r⟩ | ⟨_, r⟩ <;> rw [hd] at r <;> cases r
      · obtain ⟨o', es, ep, e', hd'⟩ := x.frame_data hm
        rw [e] at e'; cases e'; rw [hd] at hd'; cases hd'
      · cases q : σ b with
        | none => rfl
        | some ao => exact (x.not_tup q vs ⟨o, e, hc, n, hd⟩).elim
  · obtain ⟨v, o, e', _⟩ := x.fr.cells y c e
    rw [q, hI] at e'; cases e'

/-! the iterators -/
theorem wpAny_letOwned_list {M : Model} {A : Around} {tgt : Expr} {I l : Addr} {i : Nat} {v : Value} {s : Shared} {prog : Program} {w : World} {Q : Unit → Shared → Prop} {E : Value → Shared → Prop} (hit : s.heap.IsListIter I l i) (hQ : Q () s)
    (ht : (∃ x p, tgt = .Name x p) ∨ ∃ es k p, tgt = .Tuple es k p) : wpAny (model prog w) A (letOwnedTupleGo tgt (.ref I) v) Q E s := by
  rcases ht with ⟨x, p, rfl⟩ | ⟨es, k, p, rfl⟩
  · exact wpAny_pure hQ
  · cases v with
    | ref T => exact wpAny_letOwnedTupleGo_listiter hit hQ
    | _ => exact wpAny_pure hQ

def LJ (I l : Addr) (ps : List PV) (h : Heap) : Prop := ∃ i, ∃ vs : List Value, h.IsListIter I l i ∧ h.IsList l vs.toArray ∧ VRs h (vs.drop i) ps

theorem listIter_notup {I l : Addr} {i : Nat} {h : Heap} (x : h.IsListIter I l i) (vs : Array Value) : ¬ h.IsTuple I vs := by
  rintro ⟨o, e, hc, _⟩
  obtain ⟨o', e', hc', _⟩ := x
  rw [e] at e'; cases e'; rw [hc] at hc'; simp at hc'

theorem AIter.list {prog : Program} {w : World} {A : Around} (hh : A.handled = none) {I l : Addr} (hne : l ≠ I) {tgt : Expr} (ht : (∃ x p, tgt = .Name x p) ∨ ∃ es k p, tgt = .Tuple es k p) : AIter prog w A I tgt [I, l] (LJ I l) where
  frame := fun ps h h' ⟨i, vs, h1, h2, h3⟩ k hk => ⟨i, vs, h1.at fun o e => hk I (by simp) o e, h2.at fun o e => hk l (by simp) o e, h3.mono k⟩
  next := by
    rintro p ps s Q E ⟨i, vs, h1, h2, h3⟩ hQ
    obtain ⟨v, ws, e, r, rs⟩ := h3.cons_inv
    have hv : vs[i]? = some v := by
      have : (vs.drop i)[0]? = some v := by rw [e]; rfl
      simpa using this
    have hd : vs.drop (i + 1) = ws := by
      have : (vs.drop i).drop 1 = ws := by rw [e]; rfl
      simpa [List.drop_drop] using this
    refine wpAny_pyNext_list_item h1 h2 (x := v) (by simpa using hv) fun h' hit hs => ?_
    have tk : TupKept s.heap h' := fun b us y => by
      by_cases q : b = I
      · subst q; exact (listIter_notup h1 us y).elim
      · obtain ⟨ob, z, r⟩ := y; exact ⟨ob, hs.extBut b ob q z, r⟩
    refine wpAny_letOwned_list (M := model prog w) hit (hQ v h' s.toks (r.mono tk) ⟨i + 1, vs, hit, h2.extBut hs.extBut hne, hd ▸ rs.mono tk⟩ fun b o hb e => hs.extBut b o hb e) ht
  stop := by
    rintro s Q E ⟨i, vs, h1, h2, h3⟩ hQ
    have hn : vs.toArray[i]? = none := by
      have := h3.nil_inv
      simpa using List.drop_eq_nil_iff.mp this
    exact wpAny_pyNext_list_end hh h1 h2 hn fun h' he => hQ h' s.toks fun b o hb e => he b o hb e
  self := fun ps s Q E ⟨i, vs, h1, _⟩ hQ => wpAny_pyIter_listiter h1 hQ
  there := by
    rintro ps h ⟨i, vs, ⟨o, e, _⟩, ⟨o', e', _⟩, _⟩ b hb
    simp only [List.mem_cons, List.not_mem_nil, or_false] at hb
    rcases hb with rfl | rfl
    · exact ⟨o, e⟩
    · exact ⟨o', e'⟩
  mine := by simp
  notup := fun ps h ⟨i, vs, h1, _⟩ us => listIter_notup h1 us

def oneName : Expr → Bool
  | .Name .. => true
  | _ => false
def nameOrTuple : Expr → Bool
  | .Name .. | .Tuple .. => true
  | _ => false
theorem nameOrTuple_is {t : Expr} (h : nameOrTuple t = true) : (∃ x p, t = .Name x p) ∨ ∃ es k p, t = .Tuple es k p := by
  cases t with
  | Name x p => exact .inl ⟨x, p, rfl⟩
  | Tuple es k p => exact .inr ⟨es, k, p, rfl⟩
  | _ => cases h
theorem oneName_is {t : Expr} (h : oneName t = true) : ∃ x p, t = .Name x p := by
  cases t with
  | Name x p => exact ⟨x, p, rfl⟩
  | _ => cases h

theorem heap_fresh (h : Heap) : h.get? h.objs.size = none := by
  cases q : h.get? h.objs.size with
  | none => rfl
  | some o => exact absurd (Heap.lt_size q) (Nat.lt_irrefl _)

theorem Iterates.list {tgt : Expr} {l : Addr} {pvs : List PV} (ok : C.Ok) (hl : σ l = some (.list pvs)) (ht : nameOrTuple tgt = true := by rfl) : Iterates C tgt (.ref l) σ [l] pvs := by
  intro ρ s v R E x hv h
  cases hv
  obtain ⟨vs, pl, rs⟩ := (x.sig l _ hl).2
  have hlt : l < s.heap.objs.size := by obtain ⟨n, e⟩ := pl; exact Heap.lt_size e
  have kp : ∀ b o, s.heap.get? b = some o → (s.heap.push { cls := .type "list_iterator", data := .fields #[.ref l, .int 0 0] }).get? b = some o := fun b o e => Heap.get?_push_of_some _ e
  refine wpAny_pyIter_list pl.isList (h _ [s.heap.objs.size, l] (LJ s.heap.objs.size l) _ s.toks kp (heap_fresh _) (AIter.list ok.hh (Nat.ne_of_lt hlt) (nameOrTuple_is ht)) ⟨0, vs, ⟨_, Heap.get?_push_size _ rfl, rfl, rfl⟩, (pl.at fun o e => kp _ _ e).isList, ?_⟩ ?_)
  · exact rs.mono (.of_ext kp)
  · intro b hb
    simp only [List.mem_cons, List.not_mem_nil, or_false] at hb
    rcases hb with rfl | rfl
    · exact .inl (heap_fresh _)
    · exact .inr (.inl (by simp))

/-! tuples -/
def TJ (I l : Addr) (ps : List PV) (h : Heap) : Prop := ∃ i, ∃ vs : List Value, h.IsTupleIter I l i ∧ h.IsTuple l vs.toArray ∧ VRs h (vs.drop i) ps
theorem tupIter_notup {I l : Addr} {i : Nat} {h : Heap} (x : h.IsTupleIter I l i) (vs : Array Value) : ¬ h.IsTuple I vs := by
  rintro ⟨o, e, hc, _⟩
  obtain ⟨o', e', hc', _⟩ := x
  rw [e] at e'; cases e'; rw [hc] at hc'; simp at hc'
theorem AIter.tuple {prog : Program} {w : World} {A : Around} (hh : A.handled = none) {I l : Addr} (hne : l ≠ I) {tgt : Expr} (ht : ∃ x p, tgt = .Name x p) : AIter prog w A I tgt [I, l] (TJ I l) where
  frame := fun ps h h' ⟨i, vs, h1, h2, h3⟩ k hk => ⟨i, vs, h1.at fun o e => hk I (by simp) o e, h2.at fun o e => hk l (by simp) o e, h3.mono k⟩
  next := by
    rintro p ps s Q E ⟨i, vs, h1, h2, h3⟩ hQ
    obtain ⟨v, ws, e, r, rs⟩ := h3.cons_inv
    have hv : vs[i]? = some v := by
      have : (vs.drop i)[0]? = some v := by rw [e]; rfl
      simpa using this
    have hd : vs.drop (i + 1) = ws := by
      have : (vs.drop i).drop 1 = ws := by rw [e]; rfl
      simpa [List.drop_drop] using this
    refine wpAny_pyNext_tuple_item h1 h2 (x := v) (by simpa using hv) fun h' hit hs => ?_
    have tk : TupKept s.heap h' := fun b us y => by
      by_cases q : b = I
      · subst q; exact (tupIter_notup h1 us y).elim
      · obtain ⟨ob, z, r⟩ := y; exact ⟨ob, hs.extBut b ob q z, r⟩
    obtain ⟨x, px, rfl⟩ := ht
    exact wpAny_pure (hQ v h' s.toks (r.mono tk) ⟨i + 1, vs, hit, tk _ _ h2, hd ▸ rs.mono tk⟩ fun b o hb e => hs.extBut b o hb e)
  stop := by
    rintro s Q E ⟨i, vs, h1, h2, h3⟩ hQ
    have hn : vs.toArray[i]? = none := by
      have := h3.nil_inv
      simpa using List.drop_eq_nil_iff.mp this
    exact wpAny_pyNext_tuple_end hh h1 h2 hn fun h' he => hQ h' s.toks fun b o hb e => he b o hb e
  self := fun ps s Q E ⟨i, vs, h1, _⟩ hQ => wpAny_pyIter_tupleiter h1 hQ
  there := by
    rintro ps h ⟨i, vs, ⟨o, e, _⟩, ⟨o', e', _⟩, _⟩ b hb
    simp only [List.mem_cons, List.not_mem_nil, or_false] at hb
    rcases hb with rfl | rfl
    · exact ⟨o, e⟩
    · exact ⟨o', e'⟩
  mine := by simp
  notup := fun ps h ⟨i, vs, h1, _⟩ us => tupIter_notup h1 us
theorem Iterates.tuple {tgt : Expr} {pvs : List PV} (ok : C.Ok) (ht : oneName tgt = true := by rfl) : Iterates C tgt (.tup pvs) σ [] pvs := by
  intro ρ s v R E x hv h
  cases hv with
  | @tup l vs _ htp rs =>
    have hlt : l < s.heap.objs.size := by obtain ⟨o, e, _⟩ := htp; exact Heap.lt_size e
    have kp : ∀ b o, s.heap.get? b = some o → (s.heap.push { cls := .type "tuple_iterator", data := .fields #[.ref l, .int 0 0] }).get? b = some o := fun b o e => Heap.get?_push_of_some _ e
    refine wpAny_pyIter_tuple htp (h _ [s.heap.objs.size, l] (TJ s.heap.objs.size l) _ s.toks kp (heap_fresh _) (AIter.tuple ok.hh (Nat.ne_of_lt hlt) (oneName_is ht)) ⟨0, vs, ⟨_, Heap.get?_push_size _ rfl, rfl, rfl⟩, TupKept.of_ext kp _ _ htp, rs.mono (.of_ext kp)⟩ ?_)
    intro b hb
    simp only [List.mem_cons, List.not_mem_nil, or_false] at hb
    rcases hb with rfl | rfl
    · exact .inl (heap_fresh _)
    · exact .inr (.inr ⟨_, htp⟩)

/-! ranges -/
def intsFrom (a : Int) : Nat → List PV
  | 0 => []
  | n + 1 => .int a :: intsFrom (a + 1) n
def RJ (I : Addr) (ps : List PV) (h : Heap) : Prop := ∃ (x : Int) (n : Nat), IsRangeIter h I x n 1 ∧ ps = intsFrom x n
theorem AIter.range {prog : Program} {w : World} {A : Around} (hh : A.handled = none) {I : Addr} {tgt : Expr} (ht : ∃ x p, tgt = .Name x p) : AIter prog w A I tgt [I] (RJ I) where
  frame := fun ps h h' ⟨x, n, h1, h2⟩ k hk => ⟨x, n, hk I (by simp) _ h1, h2⟩
  next := by
    rintro p ps s Q E ⟨x, n, h1, h2⟩ hQ
    cases n with
    | zero => cases h2
    | succ n =>
      cases h2
      refine wpAny_pyNext_range_item h1 (by omega) fun h' hit hs => ?_
      obtain ⟨y, px, rfl⟩ := ht
      exact wpAny_pure (hQ _ h' _ (.int _ _) ⟨x + 1, n, by simpa using hit, rfl⟩ fun b o hb e => hs.extBut b o hb e)
  stop := by
    rintro s Q E ⟨x, n, h1, h2⟩ hQ
    cases n with
    | zero => exact wpAny_pyNext_range_end hh h1 (by simp) fun h' he => hQ h' s.toks fun b o hb e => he b o hb e
    | succ n => cases h2
  self := fun ps s Q E ⟨x, n, h1, _⟩ hQ => wpAny_pyIter_rangeiter h1 hQ
  there := by
    rintro ps h ⟨x, n, h1, _⟩ b hb
    simp only [List.mem_cons, List.not_mem_nil, or_false] at hb
    exact ⟨_, hb ▸ h1⟩
  mine := by simp
  notup := by
    rintro ps h ⟨x, n, h1, _⟩ us ⟨o, e, hc, _⟩
    rw [h1] at e; cases e; simp at hc
theorem Iterates.range {tgt : Expr} {r : Addr} {lo hi : Int} (ok : C.Ok) (hr : σ r = some (.range lo hi)) (h1 : -(2 ^ 62) < lo) (h2 : hi < 2 ^ 62) (h3 : lo < 2 ^ 62) (h4 : -(2 ^ 62) < hi) (ht : oneName tgt = true := by rfl) :
    Iterates C tgt (.ref r) σ [] (intsFrom lo (hi - lo).toNat) := by
  intro ρ s v R E x hv h
  cases hv
  obtain ⟨t, u, w', hR⟩ := (x.sig r _ hr).2
  have hsm : Builtin.Range.small lo hi 1 = true := small_one (by omega) h3 (by omega) h2
  refine wpAny_pyIter_range hR hsm (h _ [s.heap.objs.size] (RJ s.heap.objs.size) _ s.toks (fun b o e => Heap.get?_push_of_some _ e) (heap_fresh _) (AIter.range ok.hh (oneName_is ht)) ⟨lo, (hi - lo).toNat, ?_, rfl⟩ ?_)
  · rw [PyProof.Rows.rangeSize_nat]
    exact Heap.get?_push_size _ rfl
  · intro b hb
    simp only [List.mem_cons, List.not_mem_nil, or_false] at hb
    subst hb; exact .inl (heap_fresh _)
end
end SR

set_option maxRecDepth 100000
set_option linter.unusedVariables false
namespace SR
open PySem

section
variable {C : Cx} {ρ : Loc} {σ : Sig} {X : String → Sig → Prop} {Q : PV → Sig → Prop}

theorem Post.alloc {s : Shared} {h' : Heap} {t : Nat} {a : Addr} (o : AO) (x : St C ρ σ s) (hk : ∀ b o, s.heap.get? b = some o → h'.get? b = some o) (ha : s.heap.get? a = none) (hr : OR C.S h' a o) (hq : σ a = none → Q (.ref a) (σ.set a o)) :
    Post C ρ σ s Q (.ref a) { s with heap := h', toks := t } := ⟨.ref a, _, .ref a, x.alloc hk ha hr, Stp.alloc hk ha, hq (x.fresh_sig ha)⟩
theorem Post.upd {s : Shared} {h' : Heap} {t : Nat} {a : Addr} {o : AO} (o' : AO) {v : Value} {p : PV} (ok : C.Ok) (x : St C ρ σ s) (hσ : σ a = some o) (hro : a ∉ C.ro) (hk : ∀ b o, b ≠ a → s.heap.get? b = some o → h'.get? b = some o) (hr : OR C.S h' a o') (hv : VR h' v p)
    (hq : Q p (σ.set a o')) : Post C ρ σ s Q v { s with heap := h', toks := t } := ⟨p, _, hv, x.upd hσ hk hr ok, Stp.upd (S := C.S) hσ hro hk hr, hq⟩

/-! ints -/
section
variable {a b : Int}
theorem Op2.add (h : Q (.int (a + b)) σ) : OpBin C .Add (.int a) (.int b) ρ σ Q X := by
  refine ⟨fun s v u x hv hu => ?_⟩; cases hv; cases hu; exact P.add_int (.tok x _ (.int _ _) h)
theorem Op2.sub (h : Q (.int (a - b)) σ) : OpBin C .Sub (.int a) (.int b) ρ σ Q X := by
  refine ⟨fun s v u x hv hu => ?_⟩; cases hv; cases hu; exact P.sub_int (.tok x _ (.int _ _) h)
theorem Op2.mul (h : Q (.int (a * b)) σ) (hm : IntMulOk a b) : OpBin C .Mult (.int a) (.int b) ρ σ Q X := by
  refine ⟨fun s v u x hv hu => ?_⟩; cases hv; cases hu; exact P.mul_int (.tok x _ (.int _ _) h) hm
theorem fmod_pos (a : Int) {b : Int} (hb : 0 < b) : a.fmod b = a % b := Int.fmod_eq_emod_of_nonneg a (Int.le_of_lt hb)
theorem Op2.mod (hb : 0 < b) (h : Q (.int (a % b)) σ) : OpBin C .Mod (.int a) (.int b) ρ σ Q X := by
  refine ⟨fun s v u x hv hu => ?_⟩; cases hv; cases hu
  exact PyProof.Rows.mod_int' (Int.ne_of_gt hb) (by rw [fmod_pos a hb]; exact .tok x _ (.int _ _) h)
theorem Op2.lt (h : Q (.bool (decide (a < b))) σ) : OpCmp C .Lt (.int a) (.int b) ρ σ Q X := by
  refine ⟨fun s v u x hv hu => ?_⟩; cases hv; cases hu; exact P.lt_int (.here x (.bool _) h)
theorem Op2.gt (h : Q (.bool (decide (a > b))) σ) : OpCmp C .Gt (.int a) (.int b) ρ σ Q X := by
  refine ⟨fun s v u x hv hu => ?_⟩; cases hv; cases hu; exact P.gt_int (.here x (.bool _) h)
theorem Op2.eqi (h : Q (.bool (decide (a = b))) σ) : OpCmp C .Eq (.int a) (.int b) ρ σ Q X := by
  refine ⟨fun s v u x hv hu => ?_⟩; cases hv; cases hu; exact P.eq_int (.here x (.bool _) h)
theorem Op2.nei (h : Q (.bool (!decide (a = b))) σ) : OpCmp C .NotEq (.int a) (.int b) ρ σ Q X := by
  refine ⟨fun s v u x hv hu => ?_⟩; cases hv; cases hu; exact P.ne_int (.here x (.bool _) h)
end

/-! texts -/
section
variable {a b : Str}
theorem beq_dec {α : Type} [DecidableEq α] (a b : α) : (a == b) = decide (a = b) := by
  by_cases h : a = b <;> simp [h]
theorem Op2.eqs (h : Q (.bool (decide (a = b))) σ) : OpCmp C .Eq (.str a) (.str b) ρ σ Q X := by
  refine ⟨fun s v u x hv hu => ?_⟩; cases hv; cases hu; exact PyProof.Rows.eq_str (.here x (.bool _) (by rw [beq_dec]; exact h))
end

/-! is -/
def PV.isNone : PV → Bool
  | .none => true
  | _ => false
theorem VR.isNone {h : Heap} {v : Value} {p : PV} (r : VR h v p) : (v == Value.none) = p.isNone := by cases r <;> rfl
theorem Op2.isnotnone {a : PV} (h : Q (.bool (!a.isNone)) σ) : OpCmp C .IsNot a .none ρ σ Q X := by
  refine ⟨fun s v u x hv hu => ?_⟩; cases hu; exact PyProof.Rows.isnot_none_gen (.here x (.bool _) (by rw [hv.isNone]; exact h))
/-! truth -/
theorem OpT.bool {b : Bool} {Q : Bool → Sig → Prop} (h : Q b σ) : OpT C (.bool b) ρ σ Q X := by
  refine ⟨fun s v x hv => ?_⟩; cases hv; exact wpAny_truthy_bool (.here x h)

/-! displays -/
theorem Ev.tuple {es : List Expr} {k : Nat} {pos : Pos} (h : Evs C es ρ σ (fun ps σ₁ => ps.length ≤ 1000 ∧ Q (.tup ps) σ₁) X) : Ev C (.Tuple es k pos) ρ σ Q X := by
  refine ⟨fun s x => ?_⟩
  refine PyProof.Rows.Tuple_ (wpAny_mono (h.run pos s x) (fun vs s₁ ⟨ps, σ₁, r, x₁, k₁, hl, hq⟩ => ?_) fun _ _ e => e)
  have hl' : vs.length ≤ 1000 := r.length ▸ hl
  refine wpAny_newTuple ?_ (by show vs.length ≤ 2 ^ 24; omega)
  have kp : ∀ b o, s₁.heap.get? b = some o → (s₁.heap.push { cls := .type "tuple", data := .seq vs.toArray }).get? b = some o := fun b o e => Heap.get?_push_of_some _ e
  exact ⟨.tup ps, σ₁, .tup ⟨_, Heap.get?_push_size _ rfl, rfl, _, rfl⟩ (r.mono (.of_ext kp)), x₁.ext (t := s₁.toks) kp, k₁.trans (Stp.ext (t := s₁.toks) kp), hq⟩
theorem Ev.list {es : List Expr} {pos : Pos} (h : Evs C es ρ σ (fun ps σ₁ => ps.length ≤ 1000 ∧ ∀ a, σ₁ a = none → Q (.ref a) (σ₁.set a (.list ps))) X) : Ev C (.List es pos) ρ σ Q X := by
  refine ⟨fun s x => ?_⟩
  refine PyProof.Rows.List_ (wpAny_mono (h.run pos s x) (fun vs s₁ ⟨ps, σ₁, r, x₁, k₁, hl, hq⟩ => ?_) fun _ _ e => e)
  have hl' : vs.length ≤ 1000 := r.length ▸ hl
  refine wpAny_newList ?_ (by show vs.length ≤ 2 ^ 24; omega)
  have kp : ∀ b o, s₁.heap.get? b = some o → (s₁.heap.push { cls := .type "list", data := .seq vs.toArray }).get? b = some o := fun b o e => Heap.get?_push_of_some _ e
  exact (Post.alloc (t := s₁.toks) (.list ps) x₁ kp (heap_fresh _) ⟨vs, ⟨_, Heap.get?_push_size _ rfl⟩, r.mono (.of_ext kp)⟩ (hq _)).step k₁

theorem not_sysModules {s : Shared} (x : St C ρ σ s) (ok : C.Ok) : (s.heap.objs.size == sysModules) = false := by
  obtain ⟨mc, hn, _⟩ := ok.S.nolimit
  have := (hn.keeps x.base).lt
  have h2 : cStatics = 2 := rfl
  have h1 : sysModules = 1 := rfl
  rw [h2] at this
  rw [h1, beq_eq_false_iff_ne]; exact Nat.ne_of_gt (Nat.lt_of_succ_lt this)
theorem Ev.dict0 {pos : Pos} (ok : C.Ok) (h : ∀ a, σ a = none → Q (.ref a) (σ.set a (.dict []))) : Ev C (.Dict [] [] pos) ρ σ Q X := by
  refine ⟨fun s x => ?_⟩
  refine wpAny_Dict_empty ?_
  have kp : ∀ b o, s.heap.get? b = some o → (s.heap.push { cls := .type "dict", data := .dict #[] }).get? b = some o := fun b o e => Heap.get?_push_of_some _ e
  exact Post.alloc (t := s.toks) (.dict []) x kp (heap_fresh _) ⟨not_sysModules x ok, [], .new _, .nil⟩ (h _)
/-! items -/
structure OpS (C : Cx) (value slice : Expr) (a b : PV) (ρ : Loc) (σ : Sig) (Q : PV → Sig → Prop) (X : String → Sig → Prop) : Prop where
  run : ∀ s v u, St C ρ σ s → VR s.heap v a → VR s.heap u b → wpAny (model C.S.prog C.S.w) C.A (PyProof.Rows.subscriptTail value slice v u) (Post C ρ σ s Q) (Exc C σ s X) s
theorem Ev.sub {value slice : Expr} {pos : Pos} (h : Ev C value ρ σ (fun a σ₁ => Ev C slice ρ σ₁ (fun b σ₂ => OpS C value slice a b ρ σ₂ Q X) X) X) : Ev C (.Subscript value slice pos) ρ σ Q X := by
  refine ⟨fun s x => ?_⟩
  refine PyProof.Rows.Subscript_ (wp_use (α := Unit) (h.run s x) (fun va s₁ a σ₁ ra x₁ k₁ t₁ h₁ => ?_) x)
  refine wp_on k₁ (wp_use (α := Unit) (h₁.run s₁ x₁) (fun vb s₂ b σ₂ rb x₂ k₂ t₂ h₂ => ?_) x₁) fun _ _ p => p
  exact wp_on (k₁.trans k₂) (h₂.run s₂ va vb x₂ (ra.mono t₂) rb) fun _ _ p => p.step (k₁.trans k₂)
def noSlice : Expr → Bool
  | .Slice .. => false
  | _ => true
theorem noSlice_is {slice : Expr} (h : noSlice slice = true) (o i : Value) : subscripted slice false o i = operate [o, i] (getItem o i) := by
  cases slice <;> first | rfl | cases h
theorem OpS.tuple {value slice : Expr} {ps : List PV} {k : Int} {j : Nat} {p : PV} (hj : seqIndex? k ps.length = some j) (hp : ps[j]? = some p) (hlo : -(2 ^ 63) ≤ k) (hhi : k < 2 ^ 63) (h : Q p σ) (hs : noSlice slice = true := by rfl) :
    OpS C value slice (.tup ps) (.int k) ρ σ Q X := by
  refine ⟨fun s v u x hv hu => ?_⟩
  cases hu
  cases hv with
  | @tup t vs _ ht rs =>
    obtain ⟨v, hv, r⟩ := rs.get j p hp
    exact PyProof.Rows.item_tupleT ht hlo hhi (by rw [rs.length]; exact hj) hv (.here x r h) (noSlice_is hs _ _)
theorem OpS.list {value slice : Expr} {l : Addr} {ps : List PV} {k : Int} {p : PV} (hl : σ l = some (.list ps)) (h0 : 0 ≤ k) (hhi : k < 2 ^ 63) (hp : ps[k.toNat]? = some p) (h : Q p σ) (hs : noSlice slice = true := by rfl) :
    OpS C value slice (.ref l) (.int k) ρ σ Q X := by
  refine ⟨fun s v u x hv hu => ?_⟩
  cases hu; cases hv
  obtain ⟨vs, pl, rs⟩ := (x.sig l _ hl).2
  obtain ⟨v, hv, r⟩ := rs.get _ p hp
  exact PyProof.Rows.tail_any pl.isList.typeIs slot_list_getitem.lookup (wpAny_getItem_list pl.isList h0 hhi (by simpa using hv) (.here x r h)) (noSlice_is hs _ _)
/-- an item of a list that stood before the call -/
theorem OpS.base {value slice : Expr} {l : Addr} {vs : List Value} {ps : List PV} {k : Int} {p : PV} (hl : C.S.base.IsList l vs.toArray) (hps : VRs C.S.base vs ps) (h0 : 0 ≤ k) (hhi : k < 2 ^ 63) (hp : ps[k.toNat]? = some p) (h : Q p σ) (hs : noSlice slice = true := by rfl) :
    OpS C value slice (.ref l) (.int k) ρ σ Q X := by
  refine ⟨fun s v u x hv hu => ?_⟩
  cases hu; cases hv
  obtain ⟨o, e, r⟩ := hl
  have hl' : s.heap.IsList l vs.toArray := ⟨o, x.base _ _ e, r⟩
  obtain ⟨v, hv, r⟩ := (hps.mono (.of_ext x.base)).get _ p hp
  exact PyProof.Rows.tail_any hl'.typeIs slot_list_getitem.lookup (wpAny_getItem_list hl' h0 hhi (by simpa using hv) (.here x r h)) (noSlice_is hs _ _)

/-! dicts as lists of pairs -/
section
variable {K : Type} [DecidableEq K]
def dGet (kvs : List (K × PV)) (k : K) : Option PV := (kvs.find? fun kv => kv.1 = k).map (·.2)
def dSet (kvs : List (K × PV)) (k : K) (p : PV) : List (K × PV) :=
  if (kvs.any fun kv => decide (kv.1 = k)) = true then kvs.map fun kv => if kv.1 = k then (kv.1, p) else kv else kvs ++ [(k, p)]
def dDel (kvs : List (K × PV)) (k : K) : List (K × PV) := kvs.filter fun kv => decide (kv.1 ≠ k)
theorem DP.get {h : Heap} {ws : List (K × Value)} {kvs : List (K × PV)} (x : DP h ws kvs) (k : K) : (valueAt ws k = none ∧ dGet kvs k = none) ∨ ∃ v p, valueAt ws k = some v ∧ dGet kvs k = some p ∧ VR h v p := by
  induction x with
  | nil => exact .inl ⟨rfl, rfl⟩
  | @cons k' v p ws kvs e _ ih =>
    by_cases hk : k' = k
    · exact .inr ⟨v, p, by simp [valueAt, hk], by simp [dGet, hk], e⟩
    · simpa [valueAt, dGet, hk] using ih
theorem DP.any {h : Heap} {ws : List (K × Value)} {kvs : List (K × PV)} (x : DP h ws kvs) (k : K) : (ws.any fun kv => decide (kv.1 = k)) = kvs.any fun kv => decide (kv.1 = k) := by
  induction x with
  | nil => rfl
  | cons _ _ ih => simp only [List.any_cons, ih]
theorem DP.append {h : Heap} {ws us : List (K × Value)} {kvs lvs : List (K × PV)} (x : DP h ws kvs) (y : DP h us lvs) : DP h (ws ++ us) (kvs ++ lvs) := by
  induction x with
  | nil => exact y
  | cons e _ ih => exact .cons e ih
theorem DP.put {h : Heap} {ws : List (K × Value)} {kvs : List (K × PV)} (x : DP h ws kvs) (k : K) {v : Value} {p : PV} (r : VR h v p) : DP h (ws.map fun kv => if kv.1 = k then (kv.1, v) else kv) (kvs.map fun kv => if kv.1 = k then (kv.1, p) else kv) := by
  induction x with
  | nil => exact .nil
  | @cons k' v' p' ws kvs e _ ih =>
    simp only [List.map_cons]
    by_cases hk : k' = k
    · simp only [hk, if_true]; exact .cons r ih
    · simp only [hk, if_false]; exact .cons e ih
theorem DP.stored {h : Heap} {ws : List (K × Value)} {kvs : List (K × PV)} (x : DP h ws kvs) (k : K) {v : Value} {p : PV} (r : VR h v p) : DP h (stored ws k v) (dSet kvs k p) := by
  unfold PySem.stored dSet
  rw [x.any k]
  split
  · exact x.put k r
  · exact x.append (.cons r .nil)
theorem DP.without {h : Heap} {ws : List (K × Value)} {kvs : List (K × PV)} (x : DP h ws kvs) (k : K) : DP h (without ws k) (dDel kvs k) := by
  unfold PySem.without dDel
  induction x with
  | nil => exact .nil
  | @cons k' v' p' ws kvs e _ ih =>
    simp only [List.filter_cons]
    by_cases hk : k' = k
    · simp only [hk, ne_eq, not_true_eq_false, decide_false, Bool.false_eq_true, if_false]; exact ih
    · simp only [ne_eq, hk, not_false_eq_true, decide_true, if_true]; exact .cons e ih
end

theorem OpS.dict {value slice : Expr} {d : Addr} {kvs : List (Str × PV)} {k : Str} {p : PV} (hd : σ d = some (.dict kvs)) (hp : dGet kvs k = some p) (h : Q p σ) (hs : noSlice slice = true := by rfl) :
    OpS C value slice (.ref d) (.str k) ρ σ Q X := by
  refine ⟨fun s v u x hv hu => ?_⟩
  cases hu; cases hv
  obtain ⟨_, ws, hm, dp⟩ := (x.sig d _ hd).2
  rcases dp.get k with ⟨_, h2⟩ | ⟨v, p', h1, h2, r⟩
  · rw [hp] at h2; cases h2
  · rw [hp] at h2; cases h2
    exact PyProof.Rows.tail_any hm.typeIs slot_dict_getitem.lookup (wpAny_getItem_of (strKind_is _ _ _ _) hm.mapOf h1 (.tok x _ r h)) (noSlice_is hs _ _)

/-- storing under a key -/
theorem Ex.setItem {o i value : Expr} {pos' pos : Pos} {Q : Fl → Loc → Sig → Prop} (ok : C.Ok)
    (h : Ev C value ρ σ (fun p σ₁ => Ev C o ρ σ₁ (fun a σ₂ => Ev C i ρ σ₂ (fun b σ₃ => ∃ d kvs k, a = .ref d ∧ b = .str k ∧ σ₃ d = some (.dict kvs) ∧ d ∉ C.ro ∧ kvs.length ≤ 1000 ∧ Q .next ρ (σ₃.set d (.dict (dSet kvs k p)))) X) X) X)
    (hc : swapsWith value (some (.Subscript o i pos')) pos.line C.env = pure false := by rfl) : Ex C (.Assign [.Subscript o i pos'] value pos) ρ σ Q X := by
  refine ⟨fun s x => ?_⟩
  refine wpAny_Assign_Subscript (wp_use (α := Unit) (h.run s x) (fun v s₁ p σ₁ r x₁ k₁ t₁ h₁ => ?_) x) hc
  refine wp_on k₁ (wp_use (α := Unit) (h₁.run s₁ x₁) (fun va s₂ a σ₂ ra x₂ k₂ t₂ h₂ => ?_) x₁) fun _ _ p => p
  refine wp_on (k₁.trans k₂) (wp_use (α := Unit) (h₂.run s₂ x₂) (fun vb s₃ b σ₃ rb x₃ k₃ t₃ h₃ => ?_) x₂) fun _ _ p => p
  obtain ⟨d, kvs, k, rfl, rfl, hd, hro, hsz, hq⟩ := h₃
  cases ra; cases rb
  obtain ⟨hsm, ws, hm, dp⟩ := (x₃.sig d _ hd).2
  have hsz' : ws.length ≤ sizeLine := by rw [dp.length]; show _ ≤ 2 ^ 24; omega
  refine wpAny_setItem_pairs (strKind_is _ _ _ _) hm (fun h' hm' hs' => ?_) hsz'
  have ext : ∀ b o, b ≠ d → s₃.heap.get? b = some o → h'.get? b = some o := fun b o hb e => hs'.extBut b o hb e
  have tk : TupKept s₃.heap h' := fun b us y => by
    by_cases q : b = d
    · subst q; exact (x₃.not_tup hd us y).elim
    · obtain ⟨ob, z, r⟩ := y; exact ⟨ob, ext b ob q z, r⟩
  have hor : OR C.S h' d (.dict (dSet kvs k p)) := ⟨hsm, _, hm', (dp.mono tk).stored k ((r.mono (t₂.trans t₃)).mono tk)⟩
  exact ⟨.next, ρ, _, trivial, x₃.upd (t := s₃.toks + 1) hd ext hor ok, ((k₁.trans k₂).trans k₃).trans (Stp.upd (S := C.S) hd hro ext hor), hq⟩
end
end SR

set_option maxRecDepth 100000
set_option linter.unusedVariables false
set_option linter.unusedSectionVars false
namespace SR
open PySem PySem.SeqAt

section
variable {C : Cx} {ρ : Loc} {σ : Sig} {X : String → Sig → Prop} {Q : PV → Sig → Prop}

/-! equal data -/
mutual
inductive EqR (σ : Sig) : Nat → PV → PV → Prop
  | none (n : Nat) : EqR σ n .none .none
  | bool (n : Nat) (b : Bool) : EqR σ n (.bool b) (.bool b)
  | int (n : Nat) (i : Int) : EqR σ n (.int i) (.int i)
  | str (n : Nat) (x : Str) : EqR σ n (.str x) (.str x)
  | tup {n : Nat} {ps qs : List PV} : EqRL σ n ps qs → EqR σ (n + 1) (.tup ps) (.tup qs)
  | list {n : Nat} {a b : Addr} {ps qs : List PV} : σ a = some (.list ps) → σ b = some (.list qs) → EqRL σ n ps qs → EqR σ (n + 1) (.ref a) (.ref b)
inductive EqRL (σ : Sig) : Nat → List PV → List PV → Prop
  | nil (n : Nat) : EqRL σ n [] []
  | cons {n : Nat} {p q : PV} {ps qs : List PV} : EqR σ n p q → EqRL σ n ps qs → EqRL σ n (p :: ps) (q :: qs)
end
theorem EqRL.length {σ : Sig} : ∀ {n : Nat} {ps qs : List PV}, EqRL σ n ps qs → ps.length = qs.length
  | _, _, _, .nil _ => rfl
  | _, _, _, .cons _ r => congrArg (· + 1) r.length

theorem allT (n : Nat) : ((List.range n).all fun _ => true) = true := List.all_eq_true.mpr fun _ _ => rfl
mutual
theorem EqR.eqAt {s : Shared} (x : St C ρ σ s) : ∀ {n : Nat} {p q : PV}, EqR σ n p q → ∀ {A : Around} {v u : Value}, VR s.heap v p → VR s.heap u q → A.units + n < cLine → EqAt A s v u true
  | _, _, _, .none _ => by
    intro hv hu _
    cases hv; cases hu; exact EqAt.same _
  | _, _, _, .bool _ _ => by
    intro hv hu _
    cases hv; cases hu; exact EqAt.same _
  | _, _, _, .int _ i => by
    intro hv hu _
    cases hv; cases hu
    exact fun prog w E Q hq => wpAny_eqBool_int (by simpa using hq)
  | _, _, _, .str _ y => by
    intro hv hu _
    cases hv; cases hu
    exact fun prog w E Q hq => wpAny_eqBool_str (by simpa using hq)
  | _, _, _, .tup r => by
    intro hv hu hun
    rename Around => A
    cases hv with
    | @tup a vs _ ht hs =>
      cases hu with
      | @tup b us _ ht' hs' =>
        by_cases hab : a = b
        · subst hab; exact EqAt.same _
        · refine EqAt.of_refs hab ?_
          have := RcAt.tuples (A := A) (e := fun _ => true) ht ht' (by omega) (EqRL.eqAt x r hs hs' (by show A.units + 1 + _ < _; omega))
          simpa [hs.length, hs'.length, r.length, allT] using this
  | _, _, _, .list (a := a) (b := b) ha hb r => by
    intro hv hu hun
    rename Around => A
    cases hv; cases hu
    by_cases hab : a = b
    · subst hab; exact EqAt.same _
    · refine EqAt.of_refs hab ?_
      obtain ⟨vs, pl, hs⟩ := (x.sig a _ ha).2
      obtain ⟨us, pl', hs'⟩ := (x.sig b _ hb).2
      have := RcAt.lists (A := A) (e := fun _ => true) pl.isList pl'.isList (by simpa using (hs.length.trans r.length).trans hs'.length.symm) (by omega) (EqRL.eqAt x r hs hs' (by show A.units + 1 + _ < _; omega))
      simpa [allT] using this
theorem EqRL.eqAt {s : Shared} (x : St C ρ σ s) : ∀ {n : Nat} {ps qs : List PV}, EqRL σ n ps qs → ∀ {A : Around} {vs us : List Value}, VRs s.heap vs ps → VRs s.heap us qs → A.units + n < cLine →
    ∀ j (h1 : j < vs.toArray.size) (h2 : j < us.toArray.size), EqAt A s vs.toArray[j] us.toArray[j] true
  | _, _, _, .nil _ => by
    intro hv hu _ j h1 _
    cases hv; simp at h1
  | _, _, _, .cons e r => by
    intro hv hu hun j h1 h2
    cases hv with
    | cons a b =>
      cases hu with
      | cons c d =>
        cases j with
        | zero => exact EqR.eqAt x e a c hun
        | succ j =>
          have := EqRL.eqAt x r b d hun j (by simpa using h1) (by simpa using h2)
          simpa using this
end

theorem Op2.neSame {n : Nat} {p q : PV} (ok : C.Ok) (r : EqR σ n p q) (hn : n ≤ 6) (hr : p.isRef = true) (h : Q (.bool false) σ) : OpCmp C .NotEq p q ρ σ Q X := by
  refine ⟨fun s v u x hv hu => ?_⟩
  have hun := ok.units
  cases r with
  | tup r =>
    next m ps qs =>
    cases hv with
    | tup ht hs => cases hu with
      | tup ht' hs' =>
        refine RcNeAt.tuples (e := fun _ => true) ht ht' (by omega) (EqRL.eqAt x r hs hs' (by show C.A.units + 1 + _ < _; omega)) _ _ _ _ (.here x (.bool _) ?_)
        simpa [hs.length, hs'.length, r.length, allT] using h
  | list ha hb r =>
    cases hv; cases hu
    obtain ⟨vs, pl, hs⟩ := (x.sig _ _ ha).2
    obtain ⟨us, pl', hs'⟩ := (x.sig _ _ hb).2
    refine RcNeAt.lists (e := fun _ => true) pl.isList pl'.isList (by simpa using (hs.length.trans r.length).trans hs'.length.symm) (by omega) (EqRL.eqAt x r hs hs' (by show C.A.units + 1 + _ < _; omega)) _ _ _ _ (.here x (.bool _) ?_)
    simpa [allT] using h
  | _ => cases hr
/-! data without objects -/
mutual
def pureP : Nat → PV → Bool
  | _, .none | _, .bool _ | _, .int _ | _, .str _ => true
  | n + 1, .tup ps => pureL n ps
  | _, _ => false
def pureL : Nat → List PV → Bool
  | _, [] => true
  | n, p :: ps => pureP n p && pureL n ps
end
mutual
theorem EqR.pure : ∀ (n : Nat) (p : PV), pureP n p = true → EqR σ n p p
  | n, .none, _ => .none n
  | n, .bool b, _ => .bool n b
  | n, .int i, _ => .int n i
  | n, .str x, _ => .str n x
  | n + 1, .tup ps, h => .tup (EqRL.pure n ps (by simpa [pureP] using h))
  | 0, .tup _, h => by simp [pureP] at h
  | n, .ref _, h => by cases n <;> simp [pureP] at h
  | n, .ty _, h => by cases n <;> simp [pureP] at h
theorem EqRL.pure : ∀ (n : Nat) (ps : List PV), pureL n ps = true → EqRL σ n ps ps
  | n, [], _ => .nil n
  | n, p :: ps, h => by
    rw [pureL, Bool.and_eq_true] at h
    exact .cons (EqR.pure n p h.1) (EqRL.pure n ps h.2)
end
theorem pureL_all {n : Nat} : ∀ {ps : List PV}, (∀ p ∈ ps, pureP n p = true) → pureL n ps = true
  | [], _ => by simp [pureL]
  | p :: ps, h => by rw [pureL, h p List.mem_cons_self, pureL_all fun q hq => h q (List.mem_cons_of_mem _ hq)]; rfl
theorem EqR.lists {n : Nat} {a b : Addr} {ps : List PV} (ha : σ a = some (.list ps)) (hb : σ b = some (.list ps)) (h : pureL n ps = true) : EqR σ (n + 1) (.ref a) (.ref b) := .list ha hb (EqRL.pure n ps h)

/-! in a list of texts, of ints -/
def isS (k : Str) : Value → Bool
  | .str z _ => decide (z = k)
  | _ => false
theorem any_strs {h : Heap} (k : Str) : ∀ {xs : List Str} {vs : List Value}, VRs h vs (xs.map .str) → vs.any (isS k) = decide (k ∈ xs)
  | [], vs, r => by rw [r.nil_inv]; simp
  | z :: zs, vs, r => by
    obtain ⟨v, ws, rfl, r, rs⟩ := VRs.cons_inv r
    cases r
    rw [List.any_cons, any_strs k rs]
    by_cases e : z = k
    · simp [e, isS]
    · have e' : ¬ k = z := fun h => e h.symm
      simp [e, e', isS]
theorem eqAt_strs {A : Around} {s : Shared} {k : Str} {t : Tok} {xs : List Str} {vs : List Value} (hs : VRs s.heap vs (xs.map .str)) (y : Value) (hy : y ∈ vs.toArray) : EqAt A s y (.str k t) (isS k y) := by
  obtain ⟨i, hi⟩ := List.mem_iff_getElem?.mp (by simpa using hy)
  obtain ⟨p, hp, r⟩ := hs.get' i y hi
  rw [List.getElem?_map] at hp
  obtain ⟨z, _, rfl⟩ := Option.map_eq_some_iff.mp hp
  cases r
  exact fun prog w E Q hq => wpAny_eqBool_str hq
theorem Op2.notin_strs {l : Addr} {k : Str} {xs : List Str} (hl : σ l = some (.list (xs.map .str))) (h : Q (.bool (!decide (k ∈ xs))) σ) : OpCmp C .NotIn (.str k) (.ref l) ρ σ Q X := by
  refine ⟨fun s v u x hv hu => ?_⟩
  cases hv; cases hu
  obtain ⟨vs, pl, hs⟩ := (x.sig _ _ hl).2
  refine notIn_listAt (isS k) pl.isList (eqAt_strs hs) (.here x (.bool _) ?_)
  rw [List.any_toArray, any_strs k hs]; exact h
theorem Op2.notin_dict {d : Addr} {k : Str} {kvs : List (Str × PV)} (hd : σ d = some (.dict kvs)) (h : Q (.bool (!(dGet kvs k).isSome)) σ) : OpCmp C .NotIn (.str k) (.ref d) ρ σ Q X := by
  refine ⟨fun s v u x hv hu => ?_⟩
  cases hv; cases hu
  obtain ⟨hsm, ws, hm, dp⟩ := (x.sig _ _ hd).2
  refine wpAny_notIn_of (strKind_is _ _ _ _) hsm hm.mapOf (.tok x _ (.bool _) ?_)
  have e : (valueAt ws k).isSome = (dGet kvs k).isSome := by
    rcases dp.get k with ⟨h1, h2⟩ | ⟨_, _, h1, h2, _⟩ <;> rw [h1, h2] <;> rfl
  rw [e]; exact h

/-! calls of built-in functions and of types -/
theorem Ev.callB {f : Str} {id : String} {np pos : Pos} {args : List Expr} (ok : C.Ok) (hk : C.kd f = some .globalImplicit) (hg : C.S.mg f = Option.none) (hb : C.S.mb f = some (.builtin id)) (h : Evs C args ρ σ (fun ps σ₁ => OpN C (.builtin id) ps ρ σ₁ Q X) X)
    (hs : args.all noStar = true := by rfl) (hd : (f == ("__debug__" : Str)) = false := by decide) : Ev C (.Call (.Name f np) args [] pos) ρ σ Q X := by
  refine ⟨fun s x => ?_⟩
  refine wpAny_Call_ofName (wp_builtin ok x hk hg hb ?_ hd)
  have hp := starEach_plain args C.env pos hs
  refine Calls.callWith_builtin (List.any_eq_false.mpr fun y hy => by rw [hp y hy]; simp) (evalArgs_all hp ?_)
  refine wpAny_mono (h.run pos s x) (fun vs s₁ ⟨ps, σ₁, r, x₁, k₁, h₁⟩ => ?_) fun _ _ e => e
  exact wp_on k₁ (h₁.run s₁ vs x₁ r) fun _ _ p => p.step k₁
theorem Ev.callT {f : Str} {T : String} {np pos : Pos} {args : List Expr} (ok : C.Ok) (hk : C.kd f = some .globalImplicit) (hg : C.S.mg f = Option.none) (hb : C.S.mb f = some (.type T)) (h : Evs C args ρ σ (fun ps σ₁ => OpN C (.type T) ps ρ σ₁ Q X) X)
    (hs : args.all noStar = true := by rfl) (hd : (f == ("__debug__" : Str)) = false := by decide) : Ev C (.Call (.Name f np) args [] pos) ρ σ Q X := by
  refine ⟨fun s x => ?_⟩
  refine wpAny_Call_ofName (wp_builtin ok x hk hg hb ?_ hd)
  have hp := starEach_plain args C.env pos hs
  refine callWith_excType (List.any_eq_false.mpr fun y hy => by rw [hp y hy]; simp) (evalArgs_all hp ?_)
  refine wpAny_mono (h.run pos s x) (fun vs s₁ ⟨ps, σ₁, r, x₁, k₁, h₁⟩ => ?_) fun _ _ e => e
  exact wp_on k₁ (h₁.run s₁ vs x₁ r) fun _ _ p => p.step k₁

/-- of a type with these methods -/
def IsT (C : Cx) (T : String) (p : PV) (σ : Sig) : Prop := ∀ (ρ : Loc) (s : Shared) (v : Value), St C ρ σ s → VR s.heap v p → s.TypeIs v T ∧ (∀ a, v = .ref a → ∃ ob, s.heap.get? a = some ob ∧ ob.dict = none)
theorem IsT.list {l : Addr} {ps : List PV} (h : σ l = some (.list ps)) : IsT C "list" (.ref l) σ := by
  intro ρ s v x hv
  cases hv
  obtain ⟨vs, ⟨n, e⟩, hs⟩ := (x.sig _ _ h).2
  exact ⟨⟨_, e, rfl⟩, fun a q => by cases q; exact ⟨_, e, rfl⟩⟩
theorem IsT.dict {l : Addr} {kvs : List (Str × PV)} (h : σ l = some (.dict kvs)) : IsT C "dict" (.ref l) σ := by
  intro ρ s v x hv
  cases hv
  obtain ⟨_, ws, ⟨o, es, ep, e, hx, r⟩, _⟩ := (x.sig _ _ h).2
  exact ⟨⟨_, e, hx.1⟩, fun a q => by cases q; exact ⟨_, e, hx.2.1⟩⟩
theorem Ev.method {o : Expr} {name : Str} {T id : String} {apos pos : Pos} {args : List Expr} (ok : C.Ok) (pa : PlainAttrs T) (slot : Slot T name id) (hty : typeOf (.builtin id) = pure (.type "method_descriptor"))
    (h : Ev C o ρ σ (fun p σ₁ => IsT C T p σ₁ ∧ Evs C args ρ σ₁ (fun ps σ₂ => OpN C (.builtin id) (p :: ps) ρ σ₂ Q X) X) X)
    (hs : args.all noStar = true := by rfl) (hlen : args.length < 20 := by decide) (hline : (apos.endLine == pos.line) = true := by rfl) (hbase : attributeBase o name C.env (eval o C.env) = eval o C.env := by rfl) :
    Ev C (.Call (.Attribute o name apos) args [] pos) ρ σ Q X := by
  refine ⟨fun s x => ?_⟩
  have hp := starEach_plain args C.env pos hs
  have hfew : ((backTo pos (starEach args C.env)).all (fun x => !x.1) && (backToKw pos (keywordEach [] C.env)).all (fun x => x.1.isSome)
      && decide (args.length + ([] : List Keyword).length + (if ([] : List Keyword).isEmpty then 0 else 1) < 30)) = true := by
    rw [Bool.and_eq_true, Bool.and_eq_true]
    refine ⟨⟨List.all_eq_true.mpr fun y hy => by rw [hp y hy]; rfl, rfl⟩, decide_eq_true ?_⟩
    show args.length + 0 + 0 < 30; omega
  refine wpAny_Call_method hbase hfew hline pa slot hty (wp_use (α := Unit) (h.run s x) (fun v s₁ p σ₁ r x₁ k₁ t₁ h₁ => ?_) x)
  obtain ⟨hT, hd⟩ := h₁.1 ρ s₁ v x₁ r
  refine ⟨hT, hd, ?_⟩
  refine Calls.callWith_builtin (List.any_eq_false.mpr fun y hy => by rw [hp y hy]; simp) (evalArgs_all hp ?_)
  refine wpAny_mono (h₁.2.run pos s₁ x₁) (fun vs s₂ ⟨ps, σ₂, rs, x₂, k₂, h₂⟩ => ?_) fun _ _ e => e.step k₁
  exact wp_on (k₁.trans k₂) (h₂.run s₂ (v :: vs) x₂ (.cons (r.mono (x₁.tup k₂.kept)) rs)) fun _ _ p => p.step (k₁.trans k₂)

theorem OpN.append {l : Addr} {ps : List PV} {p : PV} (ok : C.Ok) (hl : σ l = some (.list ps)) (hro : l ∉ C.ro) (hsz : ps.length ≤ 1000) (h : Q .none (σ.set l (.list (ps ++ [p])))) : OpN C (.builtin "list.append") [.ref l, p] ρ σ Q X := by
  refine ⟨fun s vs x hv => ?_⟩
  obtain ⟨v1, ws, rfl, r1, rs⟩ := hv.cons_inv
  obtain ⟨v2, ws, rfl, r2, rs⟩ := rs.cons_inv
  obtain rfl := rs.nil_inv
  cases r1
  obtain ⟨us, pl, hs⟩ := (x.sig _ _ hl).2
  refine wpAny_list_append_plain pl (fun h' pl' hs' => ?_) (by show us.toArray.size ≤ 2 ^ 24; rw [List.size_toArray, hs.length]; omega)
  have ext : ∀ b o, b ≠ l → s.heap.get? b = some o → h'.get? b = some o := fun b o hb e => hs'.extBut b o hb e
  have tk : TupKept s.heap h' := fun b us y => by
    by_cases q : b = l
    · subst q; exact (x.not_tup hl us y).elim
    · obtain ⟨ob, z, r⟩ := y; exact ⟨ob, ext b ob q z, r⟩
  refine Post.upd (t := s.toks) (.list (ps ++ [p])) ok x hl hro ext ⟨us ++ [v2], ?_, ((hs.mono tk).append (.cons (r2.mono tk) .nil))⟩ .none h
  simpa using pl'

theorem OpN.get {d : Addr} {k : Str} {kvs : List (Str × PV)} {dflt : PV} (hd : σ d = some (.dict kvs)) (h : Q ((dGet kvs k).getD dflt) σ) : OpN C (.builtin "dict.get") [.ref d, .str k, dflt] ρ σ Q X := by
  refine ⟨fun s vs x hv => ?_⟩
  obtain ⟨v1, ws, rfl, r1, rs⟩ := hv.cons_inv
  obtain ⟨v2, ws, rfl, r2, rs⟩ := rs.cons_inv
  obtain ⟨v3, ws, rfl, r3, rs⟩ := rs.cons_inv
  obtain rfl := rs.nil_inv
  cases r1; cases r2
  obtain ⟨hsm, ws, hm, dp⟩ := (x.sig _ _ hd).2
  refine call_meetsIn F.slot_dict_get hm.typeIs F.entry_dict_get (F.args_dict_get_3 _ _ _) (meets_dict_get_default (strKind _ _) d (strKind_is _ _ _ _) hsm v3) ⟨_, hm.mapOf, ?_⟩
  rcases dp.get k with ⟨h1, h2⟩ | ⟨v, p, h1, h2, r⟩
  · rw [h1]; rw [h2] at h; exact .tok x _ r3 h
  · rw [h1]; rw [h2] at h; exact .tok x _ r h

theorem OpN.items {d : Addr} {kvs : List (Str × PV)} (hd : σ d = some (.dict kvs)) (h : ∀ a, σ a = none → Q (.ref a) (σ.set a (.items d))) : OpN C (.builtin "dict.items") [.ref d] ρ σ Q X := by
  refine ⟨fun s vs x hv => ?_⟩
  obtain ⟨v1, ws, rfl, r1, rs⟩ := hv.cons_inv
  obtain rfl := rs.nil_inv
  cases r1
  obtain ⟨hsm, ws, hm, dp⟩ := (x.sig _ _ hd).2
  refine call_meetsIn F.slot_dict_items hm.typeIs F.entry_dict_items (F.args_dict_items_1 _) (meets_dict_items (strKind _ _) d hsm) ⟨⟨_, hm⟩, ?_⟩
  exact Post.alloc (t := s.toks) (.items d) x (fun b o e => Heap.get?_push_of_some _ e) (heap_fresh _) ⟨_, Heap.get?_push_size _ rfl, rfl, rfl⟩ (h _)

/-- list(d.items()) -/
def pairs {K : Type} (enc : K → PV) (kvs : List (K × PV)) : List PV := kvs.map fun kv => .tup [enc kv.1, kv.2]
theorem DP.at {K : Type} {h : Heap} {ws : List (K × Value)} {kvs : List (K × PV)} (x : DP h ws kvs) : ∀ {j : Nat} {k : K} {v : Value}, ws[j]? = some (k, v) → ∃ p, kvs[j]? = some (k, p) ∧ VR h v p := by
  induction x with
  | nil => intro j k v e; simp at e
  | cons e _ ih =>
    intro j k v q
    cases j with
    | zero => simp at q; obtain ⟨rfl, rfl⟩ := q; exact ⟨_, rfl, e⟩
    | succ j => simpa using ih (by simpa using q)
theorem VRs.of_get {h : Heap} : ∀ {vs : List Value} {ps : List PV}, vs.length = ps.length → (∀ (j : Nat) (v : Value) (p : PV), vs[j]? = some v → ps[j]? = some p → VR h v p) → VRs h vs ps
  | [], [], _, _ => .nil
  | [], _ :: _, h, _ => by simp at h
  | _ :: _, [], h, _ => by simp at h
  | v :: vs, p :: ps, h, g => .cons (g 0 v p rfl rfl) (VRs.of_get (by simpa using h) fun j v p a b => g (j + 1) v p (by simpa using a) (by simpa using b))

theorem kdx_pairs_rep {K : Type} [DecidableEq K] {prog : Program} {w : World} {knd : KeyKind prog w K} {enc : K → PV} (henc : ∀ k key h, knd.is k key = true → VR h key (enc k)) {h h' : Heap} {ws : List (K × Value)} {kvs : List (K × PV)} {lo : Addr} {as : List Addr}
    (dp : DP h' ws kvs) (hl : as.length = ws.length) (g : PySem.W.KdxG knd ws lo h' as) : VRs h' (as.map Value.ref) (pairs enc kvs) := by
  refine VRs.of_get (by simp [pairs, hl, dp.length]) fun j v p hv hp => ?_
  rw [List.getElem?_map] at hv
  obtain ⟨a, ha, rfl⟩ := Option.map_eq_some_iff.mp hv
  obtain ⟨key, k, x, hk, his, hobj⟩ := g.pairs j a ha
  obtain ⟨q, hq, r⟩ := dp.at hk
  rw [pairs, List.getElem?_map, hq] at hp
  cases hp
  exact .tup (vs := [key, x]) ⟨_, hobj, rfl, _, rfl⟩ (.cons (henc k key h' his) (.cons r .nil))

theorem OpN.list_items {v d : Addr} {kvs : List (Str × PV)} (ok : C.Ok) (hv : σ v = some (.items d)) (hd : σ d = some (.dict kvs)) (hsz : kvs.length ≤ 1000) (h : ∀ a, σ a = none → Q (.ref a) (σ.set a (.list (pairs .str kvs)))) :
    OpN C (.type "list") [.ref v] ρ σ Q X := by
  refine ⟨fun s vs x hvs => ?_⟩
  obtain ⟨v1, ws, rfl, r1, rs⟩ := hvs.cons_inv
  obtain rfl := rs.nil_inv
  cases r1
  have hvw : s.heap.IsItemsView v d := (x.sig _ _ hv).2
  obtain ⟨hsm, ws, hm, dp⟩ := (x.sig _ _ hd).2
  obtain ⟨ep, hm'⟩ := hm.dictAt
  refine PySem.W.kdx_call (knd := strKind C.S.prog C.S.w) ok.hh hvw hm' (by rw [dp.length]; show _ ≤ 2 ^ 24; omega) fun h' tk acc c as hk hS hl hG hacc => ?_
  have e : acc = (as.map Value.ref).toArray := by rw [← hacc]
  refine Post.alloc (t := tk) (.list (pairs .str kvs)) x hk (heap_fresh _) ⟨as.map Value.ref, ⟨c, by rw [← e]; exact hS⟩, kdx_pairs_rep (h := s.heap) (fun k key h his => ?_) (dp.mono (.of_ext hk)) hl hG⟩ (h _)
  obtain ⟨t, rfl⟩ := Value.isStrOf_shape his
  exact .str _ _
theorem OpN.range1 {n : Int} (h : ∀ a, σ a = none → Q (.ref a) (σ.set a (.range 0 n))) : OpN C (.type "range") [.int n] ρ σ Q X := by
  refine ⟨fun s vs x hv => ?_⟩
  obtain ⟨v1, ws, rfl, r1, rs⟩ := hv.cons_inv
  obtain rfl := rs.nil_inv
  cases r1
  exact call_range_1 (Post.alloc (.range 0 n) x (fun b o e => Heap.get?_push_of_some _ e) (heap_fresh _) ⟨_, _, _, Heap.get?_push_size _ rfl⟩ (h _))
theorem OpN.len_list {l : Addr} {ps : List PV} (hl : σ l = some (.list ps)) (hsz : ps.length ≤ 100000) (h : Q (.int ps.length) σ) : OpN C (.builtin "len") [.ref l] ρ σ Q X := by
  refine ⟨fun s vs x hv => ?_⟩
  obtain ⟨v1, ws, rfl, r1, rs⟩ := hv.cons_inv
  obtain rfl := rs.nil_inv
  cases r1
  obtain ⟨us, pl, hs⟩ := (x.sig _ _ hl).2
  have e : us.toArray.size = ps.length := by rw [List.size_toArray, hs.length]
  exact Calls.call_len_list pl.isList (by rw [e]; omega) (by rw [e]; exact .tok x _ (.int _ _) h)
theorem OpN.len_base {l : Addr} {us : List Value} {n : Nat} (hl : C.S.base.IsList l us.toArray) (hn : us.length = n) (hsz : n ≤ 100000) (h : Q (.int n) σ) : OpN C (.builtin "len") [.ref l] ρ σ Q X := by
  refine ⟨fun s vs x hv => ?_⟩
  obtain ⟨v1, ws, rfl, r1, rs⟩ := hv.cons_inv
  obtain rfl := rs.nil_inv
  cases r1
  obtain ⟨o, e, r⟩ := hl
  have hl' : s.heap.IsList l us.toArray := ⟨o, x.base _ _ e, r⟩
  have e : us.toArray.size = n := by rw [List.size_toArray, hn]
  exact Calls.call_len_list hl' (by rw [e]; omega) (by rw [e]; exact .tok x _ (.int _ _) h)
theorem OpN.len_dict {d : Addr} {kvs : List (Str × PV)} (hd : σ d = some (.dict kvs)) (hsz : kvs.length ≤ 100000) (h : Q (.int kvs.length) σ) : OpN C (.builtin "len") [.ref d] ρ σ Q X := by
  refine ⟨fun s vs x hv => ?_⟩
  obtain ⟨v1, ws, rfl, r1, rs⟩ := hv.cons_inv
  obtain rfl := rs.nil_inv
  cases r1
  obtain ⟨hsm, ws, hm, dp⟩ := (x.sig _ _ hd).2
  exact call_len_dict hsm hm (by rw [dp.length]; omega) (by rw [dp.length]; exact .tok x _ (.int _ _) h)
end
end SR

set_option maxRecDepth 100000
set_option linter.unusedVariables false
set_option linter.unusedSectionVars false
namespace SR
open PySem

/-! where the text's defs lie -/
def stAt (p : Program) (i : Nat) : Option Stmt := p.main.body[i]?
def bodyOf : Option Stmt → List Stmt
  | some (.FunctionDef (body := b) ..) => b
  | _ => []
def scopeOf : Option Stmt → Scope
  | some (.FunctionDef (scope := s) ..) => s
  | _ => default

structure Gh where
  A : Around
  env : Env
  own : List Addr
  frs : List Env
def kdOf (sc : Scope) (x : Str) : Option NameKind := sc.names.lookup x
def mkC (S : Sx) (sc : Scope) (ro : List Addr) (room : Nat) (g : Gh) : Cx := ⟨S, kdOf sc, ro, room, g.A, g.env, g.own, g.frs⟩

/-- the def f lies at fa, with this body, these names and parameters -/
def FnAt (S : Sx) (f : Str) (fa : Addr) (body : List Stmt) (sc : Scope) (xs : List Str) : Prop :=
  ∃ fd, IsFn S f fa fd ∧ fd.body = .stmts body ∧ fd.scope = sc ∧ fd.closure = [] ∧ fd.globals = mainGlobals ∧ fd.builtins = builtinsNs ∧ ∀ vs : List Value, vs.length = xs.length → bindArgs fd ⟨vs, []⟩ = pure (xs.zip vs)

def retv : Fl → PV
  | .ret p => p
  | _ => .none

structure ScOk (sc : Scope) (xs : List Str) : Prop where
  params : (xs.all fun x => sc.names.lookup x == some .local || sc.names.lookup x == some .cell) = true
  cells : ((cellsFrom 0 sc.names []).map (·.1)).Nodup
  kind : sc.kind = .function
  co : sc.isCoroutine = false
  gen : sc.isGenerator = false

section
variable {S : Sx} {σ : Sig} {Q : PV → Sig → Prop} {ro : List Addr}
theorem Fn.at {f : Str} {fa : Addr} {body : List Stmt} {sc : Scope} {xs : List Str} {room : Nat} {ps : List PV} (oS : S.Ok) (hf : FnAt S f fa body sc xs) (so : ScOk sc xs) (hlen : ps.length = xs.length)
    (h : ∀ g, (mkC S sc ro room g).Ok → (∀ x, kdOf sc x = some .cell → (g.env.cells.lookup x).isSome) → Exs (mkC S sc ro room g) body (Loc.nil.bind (xs.zip ps)) σ (fun fl _ σ' => Q (retv fl) σ') noX) :
    Fn S fa ro (room + 1) ps σ Q := by
  obtain ⟨fd, hI, hb, rfl, hcl, hg, hbt, hbind⟩ := hf
  refine Fn.body oS hI hb hcl hg hbt hlen hbind so.params so.cells so.kind so.co so.gen fun A frs L ok => ?_
  have := h ⟨A.deeper (calleeEnv fd L fa), calleeEnv fd L fa, (calleeCx S fd ro room A frs L fa).own, calleeEnv fd L fa :: frs⟩ ok fun x hx => PySem.W.cellsFrom_some _ _ _ (.inl hx)
  refine ⟨TrS.mono this.run fun fl ρ' σ' hq => ?_⟩
  cases fl <;> exact hq
theorem Fn.room {fa : Addr} {r r' : Nat} {ps : List PV} (h : Fn S fa ro r ps σ Q) (hr : r ≤ r') : Fn S fa ro r' ps σ Q := fun A frs s vs rm g v =>
  h A frs s vs ⟨rm.hh, by have := rm.depth; omega, by have := rm.units; omega, rm.frames⟩ g v
end

section
variable {C : Cx} {ρ : Loc} {σ : Sig} {X : String → Sig → Prop} {Q : PV → Sig → Prop}
theorem Ev.callF {f : Str} {fa : Addr} {body : List Stmt} {sc : Scope} {xs : List Str} {np pos : Pos} {args : List Expr} (ok : C.Ok) (hf : FnAt C.S f fa body sc xs) (hk : C.kd f = some .globalImplicit) (h : Evs C args ρ σ (fun ps σ₁ => Fn C.S fa C.ro C.room ps σ₁ Q) X)
    (hs : args.all noStar = true := by rfl) (hd : (f == ("__debug__" : Str)) = false := by decide) : Ev C (.Call (.Name f np) args [] pos) ρ σ Q X := by
  obtain ⟨fd, hI, _⟩ := hf
  exact Ev.call ok hI hk h hs hd
end

/-- the script: a list of ints that stood before the call -/
def Script (S : Sx) (sa : Addr) (ns : List Int) : Prop := ∃ vs : List Value, S.base.IsList sa vs.toArray ∧ VRs S.base vs (ns.map .int)
/-- its cell, or the default -/
def cell (ns : List Int) (k : Int) : Int := ns.getD k.toNat 0

theorem vrs_of_ints {h : Heap} {vs : List Value} {ns : List Int} (hi : PyProof.Rows.IntsAre vs ns) : VRs h vs (ns.map .int) := by
  induction hi with
  | nil => exact .nil
  | cons _ _ _ ih => exact .cons (.int _ _) ih

/-- the law's own world -/
def lawS (prog : Program) (w : World) (s₁ : Shared) (mg mb : Str → Option Value) : Sx := ⟨prog, w, s₁.heap, mg, mb, s₁.os, fun g => g = #[]⟩
theorem lawS_ok {prog : Program} {w : World} {s₁ : Shared} {mg mb : Str → Option Value} (hg : s₁.heap.Ns mainGlobals mg) (hb : s₁.heap.Ns builtinsNs mb) (hn : s₁.heap.NoLimit) : (lawS prog w s₁ mg mb).Ok := ⟨hg, hb, hn⟩

theorem law_end {c : PySem.W.ClaimW} {cl : Str → Option Addr} {mean : ExcName → Option Value} {args : List PySem.W.WData} {prog : Program} {w : World} {s₁ : Shared} {mg mb : Str → Option Value} {fa sa : Addr} (hg : s₁.gens = #[])
    (hr : ∀ cls, c.raises args cls = false) (hp : c.post args (.bool true) args = true)
    (h : Fn (lawS prog w s₁ mg mb) fa [] 20 [.ref sa] (fun _ => none) (fun p _ => p = .bool true)) :
    wpAny (model prog w) callerA (PySem.call (.ref fa) [.ref sa]) (fun v s' => PySem.W.GoodWG c cl mean args s₁ (.ok (.ret v)) s') (fun e s' => PySem.W.GoodWG c cl mean args s₁ (.error e) s') s₁ := by
  have g : GSt (lawS prog w s₁ mg mb) [] (fun _ => none) s₁ := ⟨fun _ _ e => e, rfl, hg, fun _ _ e => (nomatch e), fun _ h => (nomatch h), fun _ _ e => (nomatch e)⟩
  refine wpAny_call (codeAny_mono (h callerA [] s₁ [.ref sa] ⟨rfl, by decide, by decide, rfl⟩ g (.cons (.ref _) .nil)) ?_)
  rintro r s' ⟨v, p, σ', rfl, hv, g', k, rfl⟩
  cases hv
  exact PySem.W.GoodW.toG ⟨.inl ⟨_, _, _, rfl, hr, .bool true, hp, PyProof.Rows.unshared_nil⟩, g'.base, g'.os, g'.gens⟩

/-- a name of the module's, by its dict -/
theorem mg_at {h : Heap} {mg : Str → Option Value} (hg : h.Ns mainGlobals mg) {o : Obj} {es : Array DictEntry} {ep : Nat} (ho : h.get? mainGlobals = some o) (hd : o.data = .dict es ep) (x : Str) : mg x = nsFind es x := by
  obtain ⟨o', es', ep', ho', hd', _, hm⟩ := hg
  rw [ho] at ho'; cases ho'
  rw [hd] at hd'; cases hd'
  exact (hm x).symm
end SR

set_option maxRecDepth 100000
set_option linter.unusedVariables false
set_option linter.unusedSectionVars false
namespace SR
open PySem

/-! stocks: names with ints -/
def sd (l : List (Str × Int)) : List (Str × PV) := l.map fun x => (x.1, .int x.2)
def sGet (l : List (Str × Int)) (k : Str) : Option Int := (l.find? fun x => x.1 = k).map (·.2)
def sSet (l : List (Str × Int)) (k : Str) (i : Int) : List (Str × Int) :=
  if (l.any fun x => decide (x.1 = k)) = true then l.map fun x => if x.1 = k then (x.1, i) else x else l ++ [(k, i)]
def sDel (l : List (Str × Int)) (k : Str) : List (Str × Int) := l.filter fun x => decide (x.1 ≠ k)
def sRecv (l : List (Str × Int)) (k : Str) (n : Int) : List (Str × Int) := sSet l k ((sGet l k).getD 0 + n)
def row (x : Str × Int) : PV := .tup [.str x.1, .int x.2]
def rows (l : List (Str × Int)) : List PV := l.map row

theorem sd_get (l : List (Str × Int)) (k : Str) : dGet (sd l) k = (sGet l k).map .int := by
  induction l with
  | nil => rfl
  | cons x l ih =>
    by_cases h : x.1 = k
    · simp [dGet, sd, sGet, h]
    · simpa [dGet, sd, sGet, h] using ih
theorem sd_any (l : List (Str × Int)) (k : Str) : ((sd l).any fun kv => decide (kv.1 = k)) = l.any fun x => decide (x.1 = k) := by
  simp [sd, List.any_map, Function.comp_def]
theorem sd_set (l : List (Str × Int)) (k : Str) (i : Int) : dSet (sd l) k (.int i) = sd (sSet l k i) := by
  unfold dSet sSet
  rw [sd_any]
  split
  · simp only [sd, List.map_map]
    refine List.map_congr_left fun x _ => ?_
    by_cases h : x.1 = k <;> simp [h]
  · simp [sd]
theorem sd_del (l : List (Str × Int)) (k : Str) : dDel (sd l) k = sd (sDel l k) := by
  simp [dDel, sd, sDel, List.filter_map, Function.comp_def]
theorem sd_pairs (l : List (Str × Int)) : pairs PV.str (sd l) = rows l := by
  simp [pairs, sd, rows, row, List.map_map, Function.comp_def]
theorem sd_length (l : List (Str × Int)) : (sd l).length = l.length := by simp [sd]
theorem rows_length (l : List (Str × Int)) : (rows l).length = l.length := by simp [rows]
theorem rows_pure (l : List (Str × Int)) : pureL 1 (rows l) = true := pureL_all fun p hp => by
  obtain ⟨x, _, rfl⟩ := List.mem_map.mp hp
  simp [row, pureP, pureL]
theorem rows_append (l m : List (Str × Int)) : rows (l ++ m) = rows l ++ rows m := by simp [rows]
theorem sSet_length_le (l : List (Str × Int)) (k : Str) (i : Int) : (sSet l k i).length ≤ l.length + 1 := by
  unfold sSet; split <;> simp
theorem sGet_none {l : List (Str × Int)} {k : Str} (h : k ∉ l.map (·.1)) : sGet l k = none := by
  simp only [sGet, Option.map_eq_none_iff, List.find?_eq_none]
  intro x hx e
  exact h (List.mem_map.mpr ⟨x, hx, by simpa using e⟩)
theorem sSet_new {l : List (Str × Int)} {k : Str} (i : Int) (h : k ∉ l.map (·.1)) : sSet l k i = l ++ [(k, i)] := by
  unfold sSet
  rw [if_neg]
  rw [List.any_eq_true]; rintro ⟨x, hx, e⟩
  exact h (List.mem_map.mpr ⟨x, hx, by simpa using e⟩)

structure Bi (S : Sx) (x : String) (v : Value) : Prop where
  g : S.mg (Str.ofString x) = none
  b : S.mb (Str.ofString x) = some v

section
variable {C : Cx} {ρ : Loc} {σ : Sig} {X : String → Sig → Prop} {Q : PV → Sig → Prop}
theorem OpN.sget {d : Addr} {k : Str} {l : List (Str × Int)} {i : Int} (hd : σ d = some (.dict (sd l))) (h : Q (.int ((sGet l k).getD i)) σ) : OpN C (.builtin "dict.get") [.ref d, .str k, .int i] ρ σ Q X := by
  refine OpN.get hd ?_
  rw [sd_get]
  cases e : sGet l k with
  | none => rw [e] at h; exact h
  | some j => rw [e] at h; exact h
end

/-! loops by invariants -/
def LSub (ρ₀ ρ : Loc) : Prop := ∀ y p, ρ₀ y = some p → ρ y = some p
theorem LSub.refl (ρ : Loc) : LSub ρ ρ := fun _ _ h => h
theorem LSub.set {ρ₀ ρ : Loc} {x : Str} {v : PV} (h : ρ₀ x = none) (k : LSub ρ₀ ρ) : LSub ρ₀ (ρ.set x v) := fun y p e => by
  simp only [Loc.set]
  split
  · next q => subst q; rw [h] at e; cases e
  · exact k y p e
section
variable {C : Cx} {ρ : Loc} {σ : Sig} {X : String → Sig → Prop} {Q : Fl → Loc → Sig → Prop}
theorem TrS.weaken {t : Sem Flow} (h : TrS C t ρ σ (fun fl ρ₂ σ₂ => ∃ ρ₁ σ₁, LSub ρ₁ ρ₂ ∧ Sub σ₁ σ₂ ∧ Q fl ρ₁ σ₁) X) : TrS C t ρ σ Q X := fun s x =>
  wpAny_mono (h s x) (fun f s' ⟨fl, ρ₂, σ₂, h1, h2, h3, ρ₁, σ₁, h4, h5, h6⟩ => ⟨fl, ρ₁, σ₁, h1, h2.drop h4 h5, h3.dropR h5, h6⟩) fun _ _ e => e
theorem Exs.drop {st : List Stmt} {ρ₀ : Loc} {σ₀ : Sig} (h : Exs C st ρ₀ σ₀ Q X) (hρ : LSub ρ₀ ρ) (hσ : Sub σ₀ σ) : Exs C st ρ σ Q X := ⟨TrS.drop h.run hρ hσ⟩

theorem ForL.inv {tgt : Expr} {body : List Stmt} : ∀ (pvs : List PV) (ρ : Loc) (σ : Sig) (I : Nat → Loc → Sig → Prop), I 0 ρ σ →
    (∀ i p ρ σ, pvs[i]? = some p → I i ρ σ → ∃ ρ₁, Bind1 C tgt p ρ ρ₁ ∧ Exs C body ρ₁ σ (fun fl ρ₂ σ₂ => match fl with
      | .next | .cont => ∃ ρ₃ σ₃, LSub ρ₃ ρ₂ ∧ Sub σ₃ σ₂ ∧ I (i + 1) ρ₃ σ₃
      | .brk => Q .next ρ₂ σ₂
      | .ret v => Q (.ret v) ρ₂ σ₂) noX) →
    (∀ ρ σ, I pvs.length ρ σ → Q .next ρ σ) → ForL C tgt body pvs ρ σ Q
  | [], ρ, σ, I, h0, _, hend => hend ρ σ h0
  | p :: ps, ρ, σ, I, h0, hstep, hend => by
    obtain ⟨ρ₁, hb, hbody⟩ := hstep 0 p ρ σ rfl h0
    refine ⟨ρ₁, hb, ⟨TrS.weaken (TrS.mono hbody.run fun fl ρ₂ σ₂ h => ?_)⟩⟩
    have goon : (∃ ρ₃ σ₃, LSub ρ₃ ρ₂ ∧ Sub σ₃ σ₂ ∧ I (0 + 1) ρ₃ σ₃) → ∃ ρ₃ σ₃, LSub ρ₃ ρ₂ ∧ Sub σ₃ σ₂ ∧ ForL C tgt body ps ρ₃ σ₃ Q := fun ⟨ρ₃, σ₃, h1, h2, h3⟩ =>
      ⟨ρ₃, σ₃, h1, h2, ForL.inv ps ρ₃ σ₃ (fun i => I (i + 1)) h3 (fun i q ρ σ hq hI => hstep (i + 1) q ρ σ (by simpa using hq) hI) fun ρ σ h => hend ρ σ h⟩
    cases fl with
    | next => exact goon h
    | cont => exact goon h
    | brk => exact ⟨ρ₂, σ₂, .refl _, .refl _, h⟩
    | ret v => exact ⟨ρ₂, σ₂, .refl _, .refl _, h⟩
theorem intsFrom_length (a : Int) (n : Nat) : (intsFrom a n).length = n := by
  induction n generalizing a with
  | zero => rfl
  | succ n ih => simp [intsFrom, ih]
theorem intsFrom_get {n i : Nat} : ∀ {a : Int} {p : PV}, (intsFrom a n)[i]? = some p → i < n ∧ p = .int (a + i) := by
  induction n generalizing i with
  | zero => intro a p h; simp [intsFrom] at h
  | succ n ih =>
    intro a p h
    cases i with
    | zero => simp [intsFrom] at h; exact ⟨Nat.succ_pos _, by simp [h]⟩
    | succ i =>
      obtain ⟨h1, h2⟩ := ih (by simpa [intsFrom] using h)
      exact ⟨Nat.succ_lt_succ h1, by rw [h2]; congr 1; omega⟩
end

theorem seqIndex_pos {k : Int} {n : Nat} (h0 : 0 ≤ k) (h1 : k < n) : seqIndex? k n = some k.toNat := by
  unfold seqIndex?
  have : ¬ k < 0 := by omega
  simp [this, h0, h1]
section
variable {C : Cx} {ρ : Loc} {σ : Sig} {X : String → Sig → Prop} {Q : PV → Sig → Prop}
/-- an item of a written table of texts -/
theorem OpS.tab {value slice : Expr} {xs : List Str} {k : Int} (h0 : 0 ≤ k) (h1 : k < xs.length) (h2 : xs.length ≤ 1000) (h : Q (.str (xs.getD k.toNat Str.empty)) σ) (hs : noSlice slice = true := by rfl) : OpS C value slice (.tup (xs.map .str)) (.int k) ρ σ Q X := by
  refine OpS.tuple (j := k.toNat) (p := .str (xs.getD k.toNat Str.empty)) (seqIndex_pos h0 (by simpa using h1)) ?_ (by omega) (by omega) h hs
  have : k.toNat < xs.length := by omega
  simp [List.getElem?_map, this]
/-- x % m for a written m -/
theorem mod_bounds (a : Int) {m : Int} (hm : 0 < m) : 0 ≤ a % m ∧ a % m < m := ⟨Int.emod_nonneg a (Int.ne_of_gt hm), Int.emod_lt_of_pos a hm⟩
end

section
variable {S : Sx} {sc : Scope} {ro ro' : List Addr} {room : Nat} {g : Gh} {ρ : Loc} {σ : Sig} {X : String → Sig → Prop} {Q : Fl → Loc → Sig → Prop}
theorem okRo (ok : (mkC S sc ro room g).Ok) (ro' : List Addr) : (mkC S sc ro' room g).Ok := ⟨ok.S, ok.hh, ok.depth, ok.units, ok.kind, ok.globals, ok.builtins, ok.kinds, ok.loc, ok.cells, ok.apart, ok.new, ok.frames⟩
end

theorem ifF {b : Bool} {P Q : Prop} (h : b = false) (hq : Q) : if b = true then P else Q := by rw [h]; simpa using hq
theorem fresh_ne {σ : Sig} {a b : Addr} {o : AO} (ha : σ a = none) (hb : σ b = some o) : b ≠ a := fun e => by subst e; rw [ha] at hb; cases hb
section
variable {C : Cx} {ρ : Loc} {σ : Sig} {X : String → Sig → Prop} {Q : PV → Sig → Prop}
theorem Tr.weaken {t : Sem Value} (h : Tr C t ρ σ (fun p σ₂ => ∃ σ₁, Sub σ₁ σ₂ ∧ Q p σ₁) X) : Tr C t ρ σ Q X := fun s x =>
  wpAny_mono (h s x) (fun f s' ⟨p, σ₂, h1, h2, h3, σ₁, h5, h6⟩ => ⟨p, σ₁, h1, h2.drop (fun _ _ e => e) h5, h3.dropR h5, h6⟩) fun _ _ e => e
theorem Ev.weaken {e : Expr} (h : Ev C e ρ σ (fun p σ₂ => ∃ σ₁, Sub σ₁ σ₂ ∧ Q p σ₁) X) : Ev C e ρ σ Q X := ⟨Tr.weaken h.run⟩
theorem Ev.mono {e : Expr} {Q' : PV → Sig → Prop} (h : Ev C e ρ σ Q' X) (hQ : ∀ p σ', Q' p σ' → Q p σ') : Ev C e ρ σ Q X := ⟨Tr.mono h.run hQ⟩
/-- list(x.items()) -/
theorem Ev.listItems {o : Expr} {np apos p2 pos : Pos} (ok : C.Ok) (hk : C.kd (Str.ofString "list") = some .globalImplicit) (hl : Bi C.S "list" (.type "list"))
    (h : Ev C o ρ σ (fun p σ₁ => ∃ d kvs, p = .ref d ∧ σ₁ d = some (.dict kvs) ∧ kvs.length ≤ 1000 ∧ ∀ b, σ₁ b = none → Q (.ref b) (σ₁.set b (.list (pairs .str kvs)))) X)
    (hline : (apos.endLine == p2.line) = true := by rfl) (hbase : attributeBase o (Str.ofString "items") C.env (eval o C.env) = eval o C.env := by rfl) :
    Ev C (.Call (.Name (Str.ofString "list") np) [.Call (.Attribute o (Str.ofString "items") apos) [] [] p2] [] pos) ρ σ Q X := by
  refine Ev.weaken (Ev.callT ok hk hl.g hl.b (Evs.cons (Ev.method ok F.plainAttrs_dict F.slot_dict_items F.type_dict_items (Ev.mono h ?_) rfl (by decide) hline hbase)))
  rintro p σ₁ ⟨d, kvs, rfl, hd, hsz, hq⟩
  refine ⟨IsT.dict hd, Evs.nil (OpN.items hd fun a ha => Evs.nil ?_)⟩
  have had := fresh_ne ha hd
  refine OpN.list_items ok (Sig.set_self _ _ _) (by rw [Sig.set_ne _ _ had]; exact hd) hsz fun b hb => ⟨σ₁.set b (.list (pairs .str kvs)), Sub.set_both (Sub.set ha), hq b ?_⟩
  have : b ≠ a := fun e => by subst e; rw [Sig.set_self] at hb; cases hb
  rw [Sig.set_ne _ _ this] at hb; exact hb
end

theorem sGet_append (l m : List (Str × Int)) (k : Str) : sGet (l ++ m) k = (sGet l k).or (sGet m k) := by
  unfold sGet; rw [List.find?_append]; cases (l.find? fun x => decide (x.1 = k)) <;> simp
theorem sGet_sSet_self (l : List (Str × Int)) (k : Str) (i : Int) : sGet (sSet l k i) k = some i := by
  unfold sSet
  split
  · next h =>
    induction l with
    | nil => simp at h
    | cons x l ih =>
      by_cases hx : x.1 = k
      · simp [sGet, hx]
      · have h' : (l.any fun x => decide (x.1 = k)) = true := by simpa [hx] using h
        simpa [sGet, hx] using ih h'
  · next h =>
    have : sGet l k = none := by
      simp only [sGet, Option.map_eq_none_iff, List.find?_eq_none]
      intro x hx e
      exact h (List.any_eq_true.mpr ⟨x, hx, e⟩)
    rw [sGet_append, this]; simp [sGet]
section
variable {C : Cx} {ρ : Loc} {σ : Sig} {X : String → Sig → Prop} {Q : PV → Sig → Prop}
theorem OpS.sdict {value slice : Expr} {d : Addr} {l : List (Str × Int)} {k : Str} {i : Int} (hd : σ d = some (.dict (sd l))) (hi : sGet l k = some i) (h : Q (.int i) σ) (hs : noSlice slice = true := by rfl) :
    OpS C value slice (.ref d) (.str k) ρ σ Q X := OpS.dict hd (by rw [sd_get, hi]; rfl) h hs
end

theorem fa_of {x y : Addr} (h : some (Value.ref x) = some (Value.ref y)) : y = x := by cases h; rfl
theorem len1 {P : List Value → Prop} (h : ∀ a, P [a]) : ∀ vs, vs.length = 1 → P vs := by
  intro vs q
  rcases vs with _ | ⟨a, _ | ⟨b, vs⟩⟩ <;> first | exact h _ | cases q
theorem len2 {P : List Value → Prop} (h : ∀ a b, P [a, b]) : ∀ vs, vs.length = 2 → P vs := by
  intro vs q
  rcases vs with _ | ⟨a, _ | ⟨b, _ | ⟨c, vs⟩⟩⟩ <;> first | exact h _ _ | cases q
theorem len3 {P : List Value → Prop} (h : ∀ a b c, P [a, b, c]) : ∀ vs, vs.length = 3 → P vs := by
  intro vs q
  rcases vs with _ | ⟨a, _ | ⟨b, _ | ⟨c, _ | ⟨d, vs⟩⟩⟩⟩ <;> first | exact h _ _ _ | cases q
theorem len4 {P : List Value → Prop} (h : ∀ a b c d, P [a, b, c, d]) : ∀ vs, vs.length = 4 → P vs := by
  intro vs q
  rcases vs with _ | ⟨a, _ | ⟨b, _ | ⟨c, _ | ⟨d, _ | ⟨e, vs⟩⟩⟩⟩⟩ <;> first | exact h _ _ _ _ | cases q
end SR

set_option maxRecDepth 100000
set_option linter.unusedVariables false
set_option linter.unusedSectionVars false
set_option linter.unusedSimpArgs false
namespace SR
open PySem

section
variable {C : Cx} {ρ : Loc} {σ : Sig} {X : String → Sig → Prop} {Q : PV → Sig → Prop}

/-- an update of a dict of the signature -/
theorem Post.dict {s : Shared} {h' : Heap} {t : Nat} {d : Addr} {kvs kvs' : List (Str × PV)} {ws' : List (Str × Value)} {v : Value} {p : PV} (ok : C.Ok) (x : St C ρ σ s) (hd : σ d = some (.dict kvs)) (hro : d ∉ C.ro)
    (hs' : Heap.SameBut d s.heap h') (hm' : h'.DictOf (strKind C.S.prog C.S.w) d ws') (dp' : TupKept s.heap h' → DP h' ws' kvs') (hv : TupKept s.heap h' → VR h' v p) (h : Q p (σ.set d (.dict kvs'))) : Post C ρ σ s Q v { s with heap := h', toks := t } := by
  have ext : ∀ b o, b ≠ d → s.heap.get? b = some o → h'.get? b = some o := fun b o hb e => hs'.extBut b o hb e
  have tk : TupKept s.heap h' := fun b us y => by
    by_cases q : b = d
    · subst q; exact (x.not_tup hd us y).elim
    · obtain ⟨ob, z, r⟩ := y; exact ⟨ob, ext b ob q z, r⟩
  obtain ⟨hsm, _⟩ := (x.sig d _ hd).2
  exact Post.upd (.dict kvs') ok x hd hro ext ⟨hsm, ws', hm', dp' tk⟩ (hv tk) h

theorem OpN.clear {d : Addr} {kvs : List (Str × PV)} (ok : C.Ok) (hd : σ d = some (.dict kvs)) (hro : d ∉ C.ro) (hsz : kvs.length ≤ 1000) (h : Q .none (σ.set d (.dict []))) : OpN C (.builtin "dict.clear") [.ref d] ρ σ Q X := by
  refine ⟨fun s vs x hv => ?_⟩
  obtain ⟨v1, ws, rfl, r1, rs⟩ := hv.cons_inv
  obtain rfl := rs.nil_inv
  cases r1
  obtain ⟨hsm, ws, hm, dp⟩ := (x.sig _ _ hd).2
  refine call_meetsIn F.slot_dict_clear hm.typeIs F.entry_dict_clear (F.args_dict_clear_1 _) (meets_dict_clear (strKind _ _) d) ⟨ws, hm, by rw [dp.length]; show _ ≤ 2 ^ 24; omega, fun h' hm' hs' => ?_⟩
  exact Post.dict (t := s.toks) ok x hd hro hs' hm' (fun _ => .nil) (fun _ => .none) h
theorem OpN.pop {d : Addr} {kvs : List (Str × PV)} {k : Str} {p : PV} (ok : C.Ok) (hd : σ d = some (.dict kvs)) (hro : d ∉ C.ro) (hsz : kvs.length ≤ 1000) (hp : dGet kvs k = some p) (h : Q p (σ.set d (.dict (dDel kvs k)))) : OpN C (.builtin "dict.pop") [.ref d, .str k] ρ σ Q X := by
  refine ⟨fun s vs x hv => ?_⟩
  obtain ⟨v1, ws, rfl, r1, rs⟩ := hv.cons_inv
  obtain ⟨v2, ws, rfl, r2, rs⟩ := rs.cons_inv
  obtain rfl := rs.nil_inv
  cases r1; cases r2
  obtain ⟨hsm, ws, hm, dp⟩ := (x.sig _ _ hd).2
  rcases dp.get k with ⟨_, h2⟩ | ⟨v, p', h1, h2, r⟩
  · rw [hp] at h2; cases h2
  · rw [hp] at h2; cases h2
    refine call_meetsIn F.slot_dict_pop hm.typeIs F.entry_dict_pop (F.args_dict_pop_2 _ _) (meets_dict_pop_there (strKind _ _) d (strKind_is _ _ _ _) [] (.inl rfl) rfl) ⟨ws, v, hm, by rw [dp.length]; show _ ≤ 2 ^ 24; omega, h1, fun h' hm' hs' => ?_⟩
    exact Post.dict (t := s.toks + 1) ok x hd hro hs' hm' (fun tk => (dp.mono tk).without k) (fun tk => r.mono tk) h

end

theorem sSet_keys (l : List (Str × Int)) (k : Str) (i : Int) : (sSet l k i).map (·.1) = if k ∈ l.map (·.1) then l.map (·.1) else l.map (·.1) ++ [k] := by
  unfold sSet
  by_cases h : k ∈ l.map (·.1)
  · rw [if_pos h, if_pos]
    · rw [List.map_map]
      refine List.map_congr_left fun x _ => ?_
      by_cases hx : x.1 = k <;> simp [hx]
    · obtain ⟨x, hx, e⟩ := List.mem_map.mp h
      exact List.any_eq_true.mpr ⟨x, hx, by simpa using e⟩
  · rw [if_neg h, if_neg]
    · simp
    · rw [List.any_eq_true]; rintro ⟨x, hx, e⟩
      exact h (List.mem_map.mpr ⟨x, hx, by simpa using e⟩)
end SR

set_option maxRecDepth 100000
set_option linter.unusedVariables false
set_option linter.unusedSectionVars false
set_option linter.unusedSimpArgs false
namespace SR
open PySem

/-! list comprehensions: the engine's loop -/
section
variable {prog : Program} {w : World} {A : Around} {R : Result → Shared → Prop} {s : Shared}
theorem compLoop_any {elt target iter : Expr} {ifs : List Expr} {scope : Scope} {pos : Pos} {it acc : Value} {env : Env} (I : Nat → Shared → Prop)
    (turn : ∀ n s, I n s → wpAny (model prog w) A (pyNext it) (fun r s₁ => match r with
      | none => R (.ok .next) s₁
      | some v => wpAny (model prog w) A (letOwnedTupleGo target it v) (fun _ s₁' => wpAny (model prog w) A (assign target env v) (fun _ s₂ =>
          wpAny (model prog w) A (forIn ifs true fun c r => if r = true then do let ok ← isTrue c env (eval c env); pure (ForInStep.yield ok) else pure (ForInStep.yield r)) (fun ok s₃ =>
            if ok = true then wpAny (model prog w) A (eval elt env) (fun x s₄ =>
              wpAny (model prog w) A (call (.builtin "list.append") [acc, x]) (fun _ s₅ => ∃ m, m < n ∧ I m s₅) (fun _ _ => False) s₄) (fun _ _ => False) s₃
            else ∃ m, m < n ∧ I m s₃) (fun _ _ => False) s₂) (fun _ _ => False) s₁') (fun _ _ => False) s₁) (fun _ _ => False) s)
    (n : Nat) (h : I n s) : codeAny (model prog w) A (.compLoop (.ListComp elt [⟨target, iter, ifs, 0⟩] scope pos) 0 it acc env) R s := by
  refine codeAny_loop rfl I (fun n s hI => ?_) n h
  show wpAny _ A ((compTurn (.ListComp elt [⟨target, iter, ifs, 0⟩] scope pos) 0 it acc env).onRaise (fun x => do noteFrame x env; theTreesLotGoes x)) _ _ s
  refine wpAny_noted ?_
  rw [compTurn_list]
  refine wpAny_bind (wpAny_standAt (wpAny_bind (wpAny_mono (turn n s hI) (fun r s₁ h₁ => ?_) fun _ _ h' => h'.elim)))
  cases r with
  | none => exact wpAny_pure h₁
  | some v =>
    refine wpAny_bind (wpAny_mono h₁ (fun _ s₁' h₁' => ?_) fun _ _ h' => h'.elim)
    refine wpAny_bind (wpAny_mono h₁' (fun _ s₂ h₂ => wpAny_bind (wpAny_mono h₂ (fun ok s₃ h₃ => ?_) fun _ _ h' => h'.elim)) fun _ _ h' => h'.elim)
    cases ok with
    | false => exact wpAny_pure ⟨rfl, h₃⟩
    | true =>
      exact wpAny_bind (wpAny_bind (wpAny_mono h₃ (fun x s₄ h₄ => wpAny_bind (wpAny_mono h₄ (fun _ s₅ h₅ => wpAny_pure (wpAny_pure ⟨rfl, h₅⟩)) fun _ _ h' => h'.elim)) fun _ _ h' => h'.elim))
end

/-! the comprehension's own frame -/
def compSc (scope : Scope) : Scope := { scope with names := scope.names.filter fun x => x.2 != .free }
def compOk (scope sc : Scope) : Bool := decide (scope.kind = .function) && scope.names.all fun x => x.2 != .cell && (if x.2 == .free then sc.names.lookup x.1 == some .cell else scope.names.lookup x.1 == some x.2)
def locC (scope : Scope) (ρ : Loc) : Loc := fun x => if scope.names.lookup x == some .free then ρ x else none
def clOf (env : Env) : List (Str × NameKind) → List (Str × Addr) → List (Str × Addr)
  | [], acc => acc
  | (n, k) :: r, acc => clOf env r (if k == .free then (n, (env.cells.lookup n).getD 0) :: acc else acc)

theorem clOf_loop {env : Env} : ∀ (names : List (Str × NameKind)) (acc : List (Str × Addr)), (∀ x ∈ names, x.2 = .free → (env.cells.lookup x.1).isSome = true) →
    (forIn names acc fun x r => if x.2 == NameKind.free then do let c ← cellOf env x.1; pure (ForInStep.yield ((x.1, c) :: r)) else pure (ForInStep.yield r) : Sem (List (Str × Addr))) = pure (clOf env names acc)
  | [], acc, _ => rfl
  | (n, k) :: r, acc, h => by
    have ih := clOf_loop (env := env) r
    simp only [List.forIn_cons]
    by_cases hk : k = .free
    · subst hk
      obtain ⟨c, hc⟩ := Option.isSome_iff_exists.mp (h (n, .free) List.mem_cons_self rfl)
      have : cellOf env n = pure c := by unfold cellOf; rw [hc]
      simp only [beq_self_eq_true, if_true, this, pure_bind, clOf, hc, Option.getD_some]
      exact ih _ fun x hx => h x (List.mem_cons_of_mem _ hx)
    · have hk' : (k == NameKind.free) = false := by simpa using hk
      simp only [hk', Bool.false_eq_true, if_false, pure_bind, clOf]
      exact ih _ fun x hx => h x (List.mem_cons_of_mem _ hx)
theorem closureFor_eq {scope : Scope} {env : Env} (h : ∀ x ∈ scope.names, x.2 = .free → (env.cells.lookup x.1).isSome = true) : closureFor scope env = pure (clOf env scope.names []) := by
  have := clOf_loop scope.names [] h
  simp only [closureFor]
  refine Eq.trans ?_ this
  simp
theorem clOf_mem {env : Env} {n : Str} {c : Addr} : ∀ {names : List (Str × NameKind)} {acc : List (Str × Addr)}, (n, c) ∈ clOf env names acc → (n, c) ∈ acc ∨ ((n, .free) ∈ names ∧ c = (env.cells.lookup n).getD 0)
  | [], acc, h => .inl h
  | (m, k) :: r, acc, h => by
    rcases clOf_mem (names := r) h with h | ⟨h1, h2⟩
    · by_cases hk : k = .free
      · subst hk
        simp only [beq_self_eq_true, if_true] at h
        rcases List.mem_cons.mp h with h | h
        · cases h; exact .inr ⟨List.mem_cons_self, rfl⟩
        · exact .inl h
      · have hk' : (k == NameKind.free) = false := by simpa using hk
        simp only [hk', Bool.false_eq_true, if_false] at h; exact .inl h
    · exact .inr ⟨List.mem_cons_of_mem _ h1, h2⟩
theorem clOf_acc {env : Env} {y : Str × Addr} : ∀ {names : List (Str × NameKind)} {acc : List (Str × Addr)}, y ∈ acc → y ∈ clOf env names acc
  | [], acc, h => h
  | (m, k) :: r, acc, h => clOf_acc (names := r) (by split; exact List.mem_cons_of_mem _ h; exact h)
theorem clOf_there {env : Env} {n : Str} : ∀ {names : List (Str × NameKind)} {acc : List (Str × Addr)}, (n, .free) ∈ names → ∃ c, (n, c) ∈ clOf env names acc
  | (m, k) :: r, acc, h => by
    rcases List.mem_cons.mp h with h | h
    · cases h
      exact ⟨_, clOf_acc (names := r) List.mem_cons_self⟩
    · exact clOf_there (names := r) h
theorem lookup_of_mem {β : Type} {n : Str} {c : β} : ∀ {l : List (Str × β)}, (n, c) ∈ l → ∃ c', l.lookup n = some c'
  | (m, k) :: r, h => by
    by_cases e : n = m
    · subst e; exact ⟨k, by simp [List.lookup]⟩
    · rcases List.mem_cons.mp h with h | h
      · cases h; exact (e rfl).elim
      · obtain ⟨c', hc⟩ := lookup_of_mem (l := r) h
        exact ⟨c', by rw [List.lookup_cons, beq_false_of_ne e]; exact hc⟩
theorem lookup_relabel_other {env : Env} {k₀ : NameKind} (hk₀ : k₀ ≠ .free) : ∀ {names : List (Str × NameKind)} {x : Str}, names.lookup x = some k₀ →
    (names.map fun (n, k) => if (k == NameKind.free && env.scope.kind == .function && env.kindOf n == some .cell) then (n, NameKind.cell) else (n, k)).lookup x = some k₀
  | [], _, h => by simp at h
  | (n, k) :: r, x, h => by
    have ih := @lookup_relabel_other env k₀ hk₀ r x
    show List.lookup x ((if (k == NameKind.free && env.scope.kind == .function && env.kindOf n == some .cell) = true then (n, NameKind.cell) else (n, k)) :: _) = _
    cases hx : x == n with
    | true =>
      simp only [List.lookup_cons, hx] at h
      cases h
      have : (k₀ == NameKind.free) = false := by simpa using hk₀
      simp [List.lookup_cons, hx, this]
    | false =>
      simp only [List.lookup_cons, hx] at h
      by_cases hc : (k == NameKind.free && env.scope.kind == .function && env.kindOf n == some .cell) = true
      · rw [if_pos hc]; simp only [List.lookup_cons, hx]; exact ih h
      · rw [if_neg hc]; simp only [List.lookup_cons, hx]; exact ih h
theorem lookup_relabel_free {env : Env} (hf : env.scope.kind = .function) {x : Str} (hx : env.kindOf x = some .cell) : ∀ {names : List (Str × NameKind)}, names.lookup x = some .free →
    (names.map fun (n, k) => if (k == NameKind.free && env.scope.kind == .function && env.kindOf n == some .cell) then (n, NameKind.cell) else (n, k)).lookup x = some .cell
  | [], h => by simp at h
  | (n, k) :: r, h => by
    have ih := @lookup_relabel_free env hf x hx r
    show List.lookup x ((if (k == NameKind.free && env.scope.kind == .function && env.kindOf n == some .cell) = true then (n, NameKind.cell) else (n, k)) :: _) = _
    cases he : x == n with
    | true =>
      simp only [List.lookup_cons, he] at h
      cases h
      have : x = n := by simpa using he
      subst this
      simp [List.lookup_cons, hf, hx]
    | false =>
      simp only [List.lookup_cons, he] at h
      by_cases hc : (k == NameKind.free && env.scope.kind == .function && env.kindOf n == some .cell) = true
      · rw [if_pos hc]; simp only [List.lookup_cons, he]; exact ih h
      · rw [if_neg hc]; simp only [List.lookup_cons, he]; exact ih h

/-! the abstract turns -/
def Tes (C : Cx) : List Expr → Loc → Sig → (Bool → Sig → Prop) → Prop
  | [], _, σ, Q => Q true σ
  | c :: cs, ρ, σ, Q => Te C c ρ σ (fun b σ₁ => if b = true then Tes C cs ρ σ₁ Q else Q false σ₁) noX
def CompL (C : Cx) (tgt : Expr) (ifs : List Expr) (elt : Expr) (ρ : Loc) (Q : List PV → Sig → Prop) : List PV → Sig → List PV → Prop
  | [], σ, acc => Q acc σ
  | p :: ps, σ, acc => ∃ ρ₁, Bind1 C tgt p ρ ρ₁ ∧ LSub ρ ρ₁ ∧ Tes C ifs ρ₁ σ (fun b σ₁ => if b = true then Ev C elt ρ₁ σ₁ (fun q σ₂ => CompL C tgt ifs elt ρ Q ps σ₂ (acc ++ [q])) noX else CompL C tgt ifs elt ρ Q ps σ₁ acc)

theorem noExc {C : Cx} {σ : Sig} {s s' : Shared} {e : Value} (h : Exc C σ s noX e s') : False := by
  obtain ⟨_, _, _, _, _, _, _, _, q⟩ := h; exact q

section
variable {C : Cx} {ρ : Loc} {σ : Sig}
theorem Tes.run_false {P : Bool → Shared → Prop} {E : Value → Shared → Prop} {M : Model} {s : Shared} {env : Env} : ∀ (cs : List Expr), P false s →
    wpAny M C.A (forIn cs false fun c r => if r = true then do let ok ← isTrue c env (eval c env); pure (ForInStep.yield ok) else pure (ForInStep.yield r)) P E s
  | [], h => wpAny_pure h
  | c :: cs, h => by
    simp only [List.forIn_cons, Bool.false_eq_true, if_false, pure_bind]
    exact Tes.run_false cs h
theorem Tes.run {Q : Bool → Sig → Prop} : ∀ (cs : List Expr) (σ₀ σ : Sig) (s₀ s : Shared), Step C σ₀ s₀ σ s → St C ρ σ s → Tes C cs ρ σ Q →
    wpAny (model C.S.prog C.S.w) C.A (forIn cs true fun c r => if r = true then do let ok ← isTrue c C.env (eval c C.env); pure (ForInStep.yield ok) else pure (ForInStep.yield r)) (PostB C ρ σ₀ s₀ Q) (fun _ _ => False) s
  | [], σ₀, σ, s₀, s, k, x, h => wpAny_pure ⟨σ, x, k, h⟩
  | c :: cs, σ₀, σ, s₀, s, k, x, h => by
    simp only [List.forIn_cons, if_true, bind_assoc, pure_bind]
    refine wpAny_bind (wpAny_mono (Te.run h s x) (fun b s₁ ⟨σ₁, x₁, k₁, h₁⟩ => ?_) fun _ _ e => noExc e)
    cases b with
    | true => exact Tes.run cs σ₀ σ₁ s₀ s₁ (k.trans k₁) x₁ h₁
    | false => exact Tes.run_false cs ⟨σ₁, x₁, k.trans k₁, h₁⟩
end

theorem St.adopt {C : Cx} {ρ : Loc} {σ : Sig} {s : Shared} {D : Addr} {o : AO} (x : St C ρ σ s) (hb : C.S.base.get? D = none) (hr : OR C.S s.heap D o) (hf : D ∉ fsOf C.frs) (ho : D ∉ C.own) : St C ρ (σ.set D o) s := by
  refine ⟨⟨x.base, x.os, x.gens, fun b ob e => ?_, x.frames, fun b ob e => ?_⟩, x.fr, fun b ob e => ?_⟩
  all_goals simp only [Sig.set] at e; split at e
  · next h => subst h; cases e; exact ⟨hb, hr⟩
  · exact x.sig b ob e
  · next h => subst h; exact hf
  · exact x.offF b ob e
  · next h => subst h; exact ho
  · exact x.off b ob e

section
variable {S : Sx} {sc : Scope} {ro : List Addr} {room : Nat} {g : Gh} {ρ : Loc} {σ : Sig}
/-- the frame of a comprehension -/
def compG (g : Gh) (scope : Scope) (Cl : Addr) : Gh := ⟨g.A, compEnvC scope (clOf g.env scope.names []) Cl g.env, [Cl], g.frs⟩
theorem compOk_free {scope sc : Scope} (h : compOk scope sc = true) {x : Str × NameKind} (hx : x ∈ scope.names) (hf : x.2 = .free) : sc.names.lookup x.1 = some .cell := by
  obtain ⟨_, h2⟩ := Bool.and_eq_true_iff.mp h
  have := List.all_eq_true.mp h2 x hx
  simp only [hf] at this
  simpa using this
theorem compOk_cell {scope sc : Scope} (h : compOk scope sc = true) : ∀ y ∈ scope.names, y.2 ≠ .cell := fun y hy e => by
  obtain ⟨_, h2⟩ := Bool.and_eq_true_iff.mp h
  have := List.all_eq_true.mp h2 y hy
  simp [e] at this
theorem compOk_other {scope sc : Scope} (h : compOk scope sc = true) {x : Str × NameKind} (hx : x ∈ scope.names) (hf : x.2 ≠ .free) : scope.names.lookup x.1 = some x.2 := by
  obtain ⟨_, h2⟩ := Bool.and_eq_true_iff.mp h
  have := List.all_eq_true.mp h2 x hx
  have hf' : (x.2 == NameKind.free) = false := by simpa using hf
  simp only [hf', Bool.false_eq_true, if_false, Bool.and_eq_true] at this
  simpa using this.2
theorem compOk_kind {scope sc : Scope} (h : compOk scope sc = true) : scope.kind = .function := by
  obtain ⟨h1, _⟩ := Bool.and_eq_true_iff.mp h
  simpa using h1
theorem compCl {scope : Scope} (ok : (mkC S sc ro room g).Ok) (hc : ∀ x, kdOf sc x = some .cell → (g.env.cells.lookup x).isSome) (hok : compOk scope sc = true) {x : Str} {c : Addr} (h : (clOf g.env scope.names []).lookup x = some c) : g.env.cells.lookup x = some c := by
  rcases clOf_mem (mem_of_lookup h) with h | ⟨h1, h2⟩
  · cases h
  · obtain ⟨c', hc'⟩ := Option.isSome_iff_exists.mp (hc x (compOk_free hok h1 rfl))
    rw [hc'] at h2 ⊢; simpa using h2.symm
theorem compG_ok {scope : Scope} {Cl : Addr} (ok : (mkC S sc ro room g).Ok) (hc : ∀ x, kdOf sc x = some .cell → (g.env.cells.lookup x).isSome) (hok : compOk scope sc = true) (hb : S.base.get? Cl = none) (ro' : List Addr) :
    (mkC S (compSc scope) ro' room (compG g scope Cl)).Ok := by
  refine ⟨ok.S, ok.hh, ok.depth, ok.units, (compOk_kind hok : scope.kind = .function), ok.globals, ok.builtins, fun x k e => ?_, List.mem_cons_self, fun x c _ e => ?_, fun x y c h1 h2 => ?_, fun a ha => ?_, ok.frames⟩
  · have hm := List.mem_filter.mp (mem_of_lookup e)
    have hk : k ≠ .free := by simpa using hm.2
    exact lookup_relabel_other hk (compOk_other hok hm.1 hk)
  · have hm := List.mem_filter.mp (mem_of_lookup e)
    exact (compOk_cell hok _ hm.1 rfl).elim
  · exact ok.apart x y c (compCl ok hc hok h1) (compCl ok hc hok h2)
  · obtain rfl : a = Cl := by simpa [mkC, compG] using ha
    exact hb

theorem compG_st {scope : Scope} {Cl : Addr} {s s₄ : Shared} {m : Str → Option Value} (ok : (mkC S sc ro room g).Ok) (hc : ∀ x, kdOf sc x = some .cell → (g.env.cells.lookup x).isSome) (hok : compOk scope sc = true) (ro' : List Addr)
    (x : St (mkC S sc ro room g) ρ σ s) (hf : s.heap.get? Cl = none) (g₄ : GSt S g.frs σ s₄) (hk : ∀ b o, s.heap.get? b = some o → s₄.heap.get? b = some o) (hn : s₄.heap.Ns Cl m) :
    St (mkC S (compSc scope) ro' room (compG g scope Cl)) (locC scope ρ) σ s₄ := by
  refine ⟨g₄, ⟨⟨m, hn, fun y p e => ?_⟩, fun y c e => ?_, fun a ha => ?_⟩, fun a o e ha => ?_⟩
  · simp only [locC] at e
    split at e
    · next hfr =>
      have hfr' : scope.names.lookup y = some .free := by simpa using hfr
      have hmem : (y, NameKind.free) ∈ scope.names := mem_of_lookup hfr'
      have hcell : kdOf sc y = some .cell := compOk_free hok hmem rfl
      have hkind : g.env.kindOf y = some .cell := ok.kinds y _ hcell
      obtain ⟨mo, _, hx⟩ := x.fr.ns
      rcases hx y p e with ⟨h1, _⟩ | ⟨_, c, v, h2, _, h4, h5⟩
      · have h1' : g.env.kindOf y = some .local := h1
        rw [hkind] at h1'; cases h1'
      · obtain ⟨c', hc'⟩ := clOf_there (env := g.env) (acc := []) hmem
        obtain ⟨c'', hl⟩ := lookup_of_mem hc'
        have := compCl ok hc hok hl
        have h2' : g.env.cells.lookup y = some c := h2
        rw [h2'] at this; cases this
        refine .inr ⟨.inl (lookup_relabel_free ok.kind hkind hfr'), c, v, hl, fun q => ?_, h4.keeps hk, h5.mono (.of_ext hk)⟩
        obtain ⟨oc, ec, _⟩ := h4
        have q' : c = Cl := q
        rw [q', hf] at ec; cases ec
    · cases e
  · have := compCl ok hc hok e
    obtain ⟨v, hv⟩ := x.fr.cells y c this
    exact ⟨v, hv.keeps hk⟩
  · obtain rfl : a = Cl := by simpa [mkC, compG] using ha
    obtain ⟨o, es, ep, ho, hd, _⟩ := hn
    exact ⟨o, ho, .inl ⟨es, ep, hd⟩⟩
  · obtain rfl : a = Cl := by simpa [mkC, compG] using ha
    rw [x.fresh_sig hf] at e; cases e
end

section
variable {S : Sx} {sc : Scope} {ro : List Addr} {room : Nat} {g : Gh} {ρ : Loc} {σ : Sig}
theorem TupKept.but {h h' : Heap} {I : Addr} (hnt : ∀ vs, ¬ h.IsTuple I vs) (hk : ∀ b o, b ≠ I → h.get? b = some o → h'.get? b = some o) : TupKept h h' := fun b vs y => by
  by_cases e : b = I
  · subst e; exact (hnt vs y).elim
  · obtain ⟨ob, q, r⟩ := y; exact ⟨ob, hk b ob e q, r⟩
theorem Stp.but {own fs : List Addr} {σ₀ : Sig} {s₀ s : Shared} {h' : Heap} {t : Nat} {I : Addr} (h0 : s₀.heap.get? I = none) (k₀ : Stp own ro fs σ₀ s₀ σ s) (hk : ∀ b o, b ≠ I → s.heap.get? b = some o → h'.get? b = some o) : Stp own ro fs σ₀ s₀ σ { s with heap := h', toks := t } :=
  ⟨fun a o e nd => by
    obtain ⟨o', e', q⟩ := k₀.kept a o e nd
    exact ⟨o', hk a o' (fun z => by rw [z, h0] at e; cases e) e', q⟩, fun a o e => by
    obtain ⟨o', e'⟩ := k₀.live a o e
    exact ⟨o', hk a o' (fun z => by rw [z, h0] at e; cases e) e'⟩, k₀.dom⟩

/-- what the comprehension leaves -/
def CompEnd (C : Cx) (ρ : Loc) (σ : Sig) (s : Shared) (Q : List PV → Sig → Prop) (acc : Value) (Cl : Addr) (r : Result) (s' : Shared) : Prop :=
  r = .ok .next ∧ ∃ D ps σ₂ m, acc = .ref D ∧ s'.heap.Ns Cl m ∧ s.heap.get? Cl = none ∧ St C ρ (σ₂.set D (.list ps)) s' ∧ Step C σ s (σ₂.set D (.list ps)) s' ∧ (σ₂.set D (.list ps)) Cl = none ∧ σ₂ D = none ∧ Q ps σ₂

theorem compLoop_sound {tgt iter elt : Expr} {ifs : List Expr} {scope : Scope} {pos : Pos} {Q : List PV → Sig → Prop} {I D Cl : Addr} {fp fz : List Addr} {J : List PV → Heap → Prop} {s₁ s : Shared} {pvs : List PV} (ok : (mkC S sc ro room g).Ok)
    (ok' : (mkC S (compSc scope) (fz ++ ro) room (compG g scope Cl)).Ok) (W : AIter S.prog S.w g.A I tgt fp J) (x₁ : St (mkC S sc ro room g) ρ σ s₁) (hI : s₁.heap.get? I = none) (hD : s₁.heap.get? D = none) (hCl : s₁.heap.get? Cl = none) (hDC : D ≠ Cl) (hDf : D ∉ fp)
    (hlen : pvs.length ≤ 100000) (x : St (mkC S (compSc scope) (fz ++ ro) room (compG g scope Cl)) (locC scope ρ) σ s) (k : Stp [Cl] (fz ++ ro) (fsOf g.frs) σ s₁ σ s) (hJ : J pvs s.heap) (gr : Ground (mkC S (compSc scope) (fz ++ ro) room (compG g scope Cl)) σ I fp s.heap)
    (hpl : s.heap.PlainList D #[]) (hL : CompL (mkC S (compSc scope) (fz ++ ro) room (compG g scope Cl)) tgt ifs elt (locC scope ρ) Q pvs σ []) :
    codeAny (model S.prog S.w) g.A (.compLoop (.ListComp elt [⟨tgt, iter, ifs, 0⟩] scope pos) 0 (.ref I) (.ref D) (compG g scope Cl).env) (CompEnd (mkC S sc ro room g) ρ σ s₁ Q (.ref D) Cl) s := by
  generalize hC' : mkC S (compSc scope) (fz ++ ro) room (compG g scope Cl) = C' at ok' x gr hL
  have eS : C'.S = S := by rw [← hC']; rfl
  have eA : C'.A = g.A := by rw [← hC']; rfl
  have eE : C'.env = (compG g scope Cl).env := by rw [← hC']; rfl
  have eO : C'.own = [Cl] := by rw [← hC']; rfl
  have eR : C'.ro = fz ++ ro := by rw [← hC']; rfl
  have eF : C'.frs = g.frs := by rw [← hC']; rfl
  have hID : D ≠ I := fun e => hDf (e ▸ W.mine)
  have hDb : C'.S.base.get? D = none := by rw [eS]; exact x₁.fresh_base hD
  have hDfs : D ∉ fsOf g.frs := x₁.fresh_fs hD
  have hDcell : ∀ y c, C'.env.cells.lookup y = some c → ∀ s : Shared, FrRep C' (locC scope ρ) s.heap → s.heap.PlainList D #[] → c ≠ D := fun y c e s fr pl q => by
    obtain ⟨v, o, e', hd⟩ := fr.cells y c e
    obtain ⟨n, e''⟩ := pl
    rw [q, e''] at e'; cases e'; cases hd
  have hDcell' : ∀ y c, C'.env.cells.lookup y = some c → c ≠ D := fun y c e => hDcell y c e s x.fr hpl
  refine compLoop_any (fun n s => ∃ pvs σ' acc, ∃ ws : List Value, n = pvs.length ∧ St C' (locC scope ρ) σ' s ∧ Stp C'.own C'.ro (fsOf C'.frs) σ s₁ σ' s ∧ J pvs s.heap ∧ Ground C' σ' I fp s.heap ∧ s.heap.PlainList D ws.toArray ∧ VRs s.heap ws acc ∧ σ' D = none ∧ acc.length + pvs.length ≤ 100000 ∧ CompL C' tgt ifs elt (locC scope ρ) Q pvs σ' acc)
    ?_ pvs.length ⟨pvs, σ, [], [], rfl, x, by rw [eO, eR, eF]; exact k, hJ, gr, hpl, .nil, x₁.fresh_sig hD, by simpa using hlen, hL⟩
  rintro n s ⟨pvs, σ', acc, ws, rfl, x, k, hJ, gr, hpl, hws, hσD, hlen, hL⟩
  have offD : ∀ σ', σ' D = none → Off C' σ' D := fun σ' h => ⟨by rw [eO]; simpa using hDC, by rw [eF]; exact hDfs, .inr h⟩
  have aside : ∀ (h' : Heap) (tk : Nat), (∀ b o, b ≠ I → s.heap.get? b = some o → h'.get? b = some o) → St C' (locC scope ρ) σ' { s with heap := h', toks := tk } ∧ Stp C'.own C'.ro (fsOf C'.frs) σ s₁ σ' { s with heap := h', toks := tk } ∧ h'.PlainList D ws.toArray ∧ VRs h' ws acc := fun h' tk hk =>
    ⟨x.aside ok' (gr.off I W.mine) gr.new gr.sig (W.notup _ _ hJ) gr.cell hk, Stp.but hI k hk, by obtain ⟨n, e⟩ := hpl; exact ⟨n, hk D _ hID e⟩, hws.mono (TupKept.but (W.notup _ _ hJ) hk)⟩
  cases pvs with
  | nil =>
    refine wpAny_mono (W.stop s (fun s₁' => St C' (locC scope ρ) σ' s₁' ∧ Stp C'.own C'.ro (fsOf C'.frs) σ s₁ σ' s₁' ∧ s₁'.heap.PlainList D ws.toArray ∧ VRs s₁'.heap ws acc) _ hJ fun h' tk hk => aside h' tk hk) (fun r s₂ hr => ?_) fun _ _ e => e
    cases r with
    | some _ => exact hr.elim
    | none =>
      obtain ⟨x₂, k₂, pl₂, ws₂⟩ := hr
      rw [eO, eR, eF] at k₂
      have k' : Stp [] (mkC S sc ro room g).ro (fsOf (mkC S sc ro room g).frs) σ s₁ σ' s₂ := ⟨fun a o e nd => k₂.kept a o e (by
        rintro (h | ⟨h1, h2⟩)
        · obtain rfl : a = Cl := by simpa using h
          rw [hCl] at e; cases e
        · exact nd (.inr ⟨h1, fun q => h2 (List.mem_append_right _ q)⟩)), k₂.live, k₂.dom⟩
      have g₂ : GSt (mkC S sc ro room g).S (mkC S sc ro room g).frs σ' s₂ := by have := x₂.toGSt; rw [eS, eF] at this; exact this
      obtain ⟨x₃, k₃⟩ := x₁.call ok g₂ k'
      obtain ⟨m, hn, _⟩ := x₂.fr.ns
      have hn' : s₂.heap.Ns Cl m := by rw [eE] at hn; exact hn
      have hσC : σ' Cl = none := by
        cases e : σ' Cl with
        | none => rfl
        | some o => exact (x₂.off Cl o e (by rw [eO]; simp)).elim
      refine ⟨rfl, D, acc, σ', m, rfl, hn', hCl, x₃.adopt (x₁.fresh_base hD) ⟨ws, pl₂, ws₂⟩ hDfs (x₁.fresh_own hD), ⟨k₃.kept, k₃.live, fun a h => ?_⟩, ?_, hσD, hL⟩
      · simp only [Sig.set] at h
        split at h
        · next q => subst q; exact .inr hD
        · exact k₃.dom a h
      · rw [Sig.set_ne _ _ (Ne.symm hDC)]; exact hσC
  | cons p ps =>
    obtain ⟨ρ₁, hb, hsub, hT⟩ := hL
    refine wpAny_mono (W.next p ps s (fun v s₁' => VR s₁'.heap v p ∧ J ps s₁'.heap ∧ St C' (locC scope ρ) σ' s₁' ∧ Stp C'.own C'.ro (fsOf C'.frs) σ s₁ σ' s₁' ∧ s₁'.heap.PlainList D ws.toArray ∧ VRs s₁'.heap ws acc) _ hJ fun v h' tk hv hJ' hk => ⟨hv, hJ', aside h' tk hk⟩) (fun r s₁' hr => ?_) fun _ _ e => e
    cases r with
    | none => exact hr.elim
    | some v =>
      refine wpAny_mono hr (fun _ s₂ ⟨hv, hJ₂, x₂, k₂, pl₂, ws₂⟩ => ?_) fun _ _ e => e
      have as : wpAny (model C'.S.prog C'.S.w) C'.A (assign tgt C'.env v) (fun _ s₃ => St C' ρ₁ σ' s₃ ∧ Step C' σ' s₂ σ' s₃) (fun _ _ => False) s₂ := wp_assign ok' x₂ hv hb fun s₃ x₃ k₃ => ⟨x₃, k₃⟩
      rw [eS, eA, eE] at as
      refine wpAny_mono as (fun _ s₃ ⟨x₃, k₃⟩ => ?_) fun _ _ e => e
      have ts := Tes.run ifs σ' σ' s₂ s₃ k₃ x₃ hT
      rw [eS, eA, eE] at ts
      refine wpAny_mono ts (fun b s₄ ⟨σ₄, x₄, k₄, h₄⟩ => ?_) fun _ _ e => e
      have off₂ := offD σ' hσD
      have liveD : ∃ o, s₂.heap.get? D = some o := by obtain ⟨n, e⟩ := pl₂; exact ⟨_, e⟩
      have th := W.there _ _ hJ₂
      have g₂ : Ground C' σ' I fp s₂.heap := ⟨gr.off, gr.new, gr.sig, gr.cell⟩
      have plk : ∀ {σ₅ : Sig} {s₅ : Shared}, Step C' σ' s₂ σ₅ s₅ → s₅.heap.PlainList D ws.toArray ∧ VRs s₅.heap ws acc ∧ σ₅ D = none ∧ J ps s₅.heap ∧ Ground C' σ₅ I fp s₅.heap := fun {σ₅ s₅} k₅ => by
        refine ⟨?_, ws₂.mono (x₂.tup k₅.kept), ?_, W.frame _ _ _ hJ₂ (x₂.tup k₅.kept) fun b hb o e => (g₂.off b hb).kept k₅ e, g₂.step k₅ th W.mine⟩
        · obtain ⟨n, e⟩ := pl₂; exact ⟨n, off₂.kept k₅ e⟩
        · cases e : σ₅ D with
          | none => rfl
          | some o =>
            rcases k₅.dom D (by rw [e]; rfl) with q | q
            · rw [hσD] at q; cases q
            · obtain ⟨o, h⟩ := liveD; rw [h] at q; cases q
      cases b with
      | false =>
        obtain ⟨a1, a2, a3, a4, a5⟩ := plk k₄
        exact ⟨ps.length, Nat.lt_succ_self _, ps, σ₄, acc, ws, rfl, x₄.drop hsub (fun _ _ h => h), k₂.trans k₄, a4, a5, a1, a2, a3, by simp only [List.length_cons] at hlen; omega, h₄⟩
      | true =>
        have ev := Ev.run h₄ s₄ x₄
        rw [eS, eA, eE] at ev
        simp only [if_true]
        refine wpAny_mono ev (fun y s₅ ⟨q, σ₅, hy, x₅, k₅, h₅⟩ => ?_) fun _ _ e => noExc e
        obtain ⟨a1, a2, a3, a4, a5⟩ := plk (k₄.trans k₅)
        refine wpAny_list_append_plain a1 (fun h' pl' hs' => ?_) (by show ws.toArray.size ≤ 2 ^ 24; rw [List.size_toArray, a2.length]; simp only [List.length_cons] at hlen; omega)
        have hnt : ∀ vs, ¬ s₅.heap.IsTuple D vs := by
          rintro vs ⟨o, e, hc, _⟩
          obtain ⟨n, e'⟩ := a1
          rw [e'] at e; cases e; simp at hc
        have ext : ∀ b o, b ≠ D → s₅.heap.get? b = some o → h'.get? b = some o := fun b o hb e => hs'.extBut b o hb e
        have tk := TupKept.but hnt ext
        refine ⟨ps.length, Nat.lt_succ_self _, ps, σ₅, acc ++ [q], ws ++ [y], rfl, ?_, ?_, W.frame _ _ _ a4 tk fun b hb o e => ext b o (fun q => hDf (q ▸ hb)) e, ⟨a5.off, a5.new, a5.sig, a5.cell⟩, ?_, (a2.mono tk).append (.cons (hy.mono tk) .nil), a3, by simp only [List.length_cons, List.length_append, List.length_nil] at hlen ⊢; omega, h₅⟩
        · have z : St C' (locC scope ρ) σ₅ { s₅ with heap := h', toks := s₅.toks } := (x₅.drop hsub (fun _ _ h => h)).aside ok' (offD σ₅ a3) hDb a3 hnt hDcell' ext
          exact z
        · have z : Stp C'.own C'.ro (fsOf C'.frs) σ s₁ σ₅ { s₅ with heap := h', toks := s₅.toks } := Stp.but hD (k₂.trans (k₄.trans k₅)) ext
          exact z
        · simpa using pl'
end

section
variable {S : Sx} {sc : Scope} {ro : List Addr} {room : Nat} {g : Gh} {ρ : Loc} {σ : Sig} {X : String → Sig → Prop}

theorem comp_block {tgt iter elt : Expr} {ifs : List Expr} {scope : Scope} {pos : Pos} {Q : List PV → Sig → Prop} {p : PV} {v : Value} {fz : List Addr} {pvs : List PV} {s₁ : Shared} {E : Value → Shared → Prop} {RR : Value → Addr → Result → Shared → Prop} (ok : (mkC S sc ro room g).Ok)
    (hc : ∀ x, kdOf sc x = some .cell → (g.env.cells.lookup x).isSome) (hok : compOk scope sc = true) (x₁ : St (mkC S sc ro room g) ρ σ s₁) (hv : VR s₁.heap v p) (hit : Iterates (mkC S sc ro room g) tgt p σ fz pvs) (hfz : ∀ b ∈ fz, ∃ o, σ b = some o) (hlen : pvs.length ≤ 100000)
    (hL : ∀ g', (mkC S (compSc scope) (fz ++ ro) room g').Ok → CompL (mkC S (compSc scope) (fz ++ ro) room g') tgt ifs elt (locC scope ρ) Q pvs σ [])
    (hR : ∀ acc Cl r s', CompEnd (mkC S sc ro room g) ρ σ s₁ Q acc Cl r s' → RR acc Cl r s') :
    wpAny (model S.prog S.w) g.A (pyIter v) (fun it s₂ => wpAny (model S.prog S.w) g.A (newList []) (fun acc s₃ => wpAny (model S.prog S.w) g.A (newFunctionEnv scope g.env.globals (clOf g.env scope.names []) [] g.env.qual none .none (some g.env)) (fun cenv s₄ =>
      codeAny (model S.prog S.w) g.A (.compStart (.ListComp elt [⟨tgt, iter, ifs, 0⟩] scope pos) 0 it acc { cenv with scope := relabel scope g.env }) (RR acc cenv.locals) s₄) E s₃) E s₂) E s₁ := by
  refine hit ρ s₁ v _ _ x₁ hv fun I fp J h' tk hk hI W hJ hfp => ?_
  have x₂ := x₁.ext (t := tk) hk
  refine wpAny_newObj_type (wpAny_newFunctionEnv (compOk_cell hok) (by intro y hy; simp at hy) (fun h₁ hns₁ hsb₁ => ?_) (compOk_kind hok))
  dsimp only at hns₁ hsb₁ ⊢
  generalize hH2 : h'.push { cls := .type "list", dict := none, data := .seq ([] : List Value).toArray } = H2 at hns₁ hsb₁ ⊢
  have hCs : H2.objs.size = h'.objs.size + 1 := by rw [← hH2, Heap.size_push]
  have hDC : h'.objs.size ≠ H2.objs.size := by rw [hCs]; exact Nat.ne_of_lt (Nat.lt_succ_self _)
  have below : ∀ b, b < h'.objs.size → b ≠ H2.objs.size ∧ b ≠ h'.objs.size := fun b hb => ⟨by rw [hCs]; exact Nat.ne_of_lt (Nat.lt_succ_of_lt hb), Nat.ne_of_lt hb⟩
  have fresh : ∀ a, h'.objs.size ≤ a → h'.get? a = none := fun a ha => by
    cases e : h'.get? a with
    | none => rfl
    | some o' => exact absurd (Heap.lt_size e) (Nat.not_lt.mpr ha)
  have fresh₁ : ∀ a, h'.objs.size ≤ a → s₁.heap.get? a = none := fun a ha => by
    cases e : s₁.heap.get? a with
    | none => rfl
    | some o' => have := hk a o' e; rw [fresh a ha] at this; cases this
  have old : ∀ b o, h'.get? b = some o → h₁.get? b = some o := fun b o e => hsb₁.extBut b o (below b (Heap.lt_size e)).1 (Heap.get?_push_of_some _ (hH2 ▸ Heap.get?_push_of_some _ e))
  have hacc : h₁.PlainList h'.objs.size #[] := ⟨_, hsb₁.extBut _ _ hDC (Heap.get?_push_of_some _ (hH2 ▸ Heap.get?_push_size _ rfl))⟩
  have old₁ : ∀ b o, s₁.heap.get? b = some o → h₁.get? b = some o := fun b o e => old b o (hk b o e)
  have hCl : s₁.heap.get? H2.objs.size = none := fresh₁ _ (by rw [hCs]; exact Nat.le_succ _)
  have ok' := compG_ok (scope := scope) (Cl := H2.objs.size) ok hc hok (x₁.fresh_base hCl) (fz ++ ro)
  have hfpD : ∀ b ∈ fp, b ≠ h'.objs.size := fun b hb e => by
    obtain ⟨o, q⟩ := W.there _ _ hJ b hb
    rw [e, fresh _ (Nat.le_refl _)] at q; cases q
  have hJ₁ : J pvs h₁ := W.frame _ _ _ hJ (.of_ext old) fun b _ o e => old b o e
  have st : ∀ t : Nat, St (mkC S (compSc scope) (fz ++ ro) room (compG g scope H2.objs.size)) (locC scope ρ) σ { s₁ with heap := h₁, toks := t } := fun t => compG_st (s₄ := { s₁ with heap := h₁, toks := t }) ok hc hok _ x₁ hCl (x₁.toGSt.ext old₁) old₁ hns₁
  have gr : Ground (mkC S (compSc scope) (fz ++ ro) room (compG g scope H2.objs.size)) σ I fp h₁ := by
    have gg := ground_of (h' := h') (t := tk) x₁ hI hfz hfp
    refine ⟨fun b hb => ⟨?_, (gg.off b hb).2.1, (gg.off b hb).2.2⟩, gg.new, gg.sig, fun y c e q => ?_⟩
    · intro hm
      obtain ⟨o, q⟩ := W.there _ _ hJ b hb
      obtain rfl : b = H2.objs.size := by simpa [mkC, compG] using hm
      exact absurd (Heap.lt_size q) (by rw [hCs]; exact Nat.not_lt.mpr (Nat.le_succ _))
    · exact gg.cell y c (compCl ok hc hok e) q
  have loop : ∀ t : Nat, codeAny (model S.prog S.w) g.A (.compLoop (.ListComp elt [⟨tgt, iter, ifs, 0⟩] scope pos) 0 (.ref I) (.ref h'.objs.size) (compG g scope H2.objs.size).env) (RR (.ref h'.objs.size) H2.objs.size) { s₁ with heap := h₁, toks := t } := fun t =>
    codeAny_mono (compLoop_sound (iter := iter) (pos := pos) ok ok' W x₁ hI (fresh₁ _ (Nat.le_refl _)) hCl hDC (fun hm => hfpD _ hm rfl) hlen (st t) (Stp.ext old₁) hJ₁ gr hacc (hL _ ok')) fun r s' h => hR _ _ r s' h
  exact codeAny_compStart_list (loop _) (W.self pvs _ _ _ hJ₁ (loop _))

theorem St.let_go {C : Cx} {ρ : Loc} {σ σ' : Sig} {s s' : Shared} {Cl : Addr} {m : Str → Option Value} {h' : Heap} {t : Nat} (x : St C ρ σ' s') (ok : C.Ok) (k : Step C σ s σ' s') (h0 : s.heap.get? Cl = none) (x₀ : St C ρ σ s) (hσ : σ' Cl = none) (hn : s'.heap.Ns Cl m) (hs : Heap.SameBut Cl s'.heap h') :
    St C ρ σ' { s' with heap := h', toks := t } ∧ Step C σ s σ' { s' with heap := h', toks := t } := by
  have ext : ∀ b o, b ≠ Cl → s'.heap.get? b = some o → h'.get? b = some o := fun b o hb e => hs.extBut b o hb e
  have own : Cl ∉ C.own := x₀.fresh_own h0
  obtain ⟨o, es, ep, ho, hd, _⟩ := hn
  refine ⟨x.aside ok ⟨own, x₀.fresh_fs h0, .inr hσ⟩ (x₀.fresh_base h0) hσ ?_ (fun y c e q => ?_) ext, Stp.but h0 k ext⟩
  · rintro vs ⟨o', e, _, n, r⟩
    rw [ho] at e; cases e; rw [hd] at r; cases r
  · obtain ⟨v, o', e', r⟩ := x.fr.cells y c e
    rw [q, ho] at e'; cases e'; rw [hd] at r; cases r

/-- [elt for tgt in iter if ..] -/
theorem Ev.listComp {tgt iter elt : Expr} {ifs : List Expr} {scope : Scope} {pos : Pos} {Q : PV → Sig → Prop} (ok : (mkC S sc ro room g).Ok) (hc : ∀ x, kdOf sc x = some .cell → (g.env.cells.lookup x).isSome) (hok : compOk scope sc = true)
    (h : Ev (mkC S sc ro room g) iter ρ σ (fun p σ₁ => ∃ fz pvs, Iterates (mkC S sc ro room g) tgt p σ₁ fz pvs ∧ (∀ b ∈ fz, ∃ o, σ₁ b = some o) ∧ pvs.length ≤ 100000 ∧
      ∀ g', (mkC S (compSc scope) (fz ++ ro) room g').Ok → CompL (mkC S (compSc scope) (fz ++ ro) room g') tgt ifs elt (locC scope ρ) (fun ps σ₂ => ∀ a, σ₂ a = none → Q (.ref a) (σ₂.set a (.list ps))) pvs σ₁ []) X)
    (hs : ∀ x, foldedSetIterable iter g.env x = pure x := by intro _; rfl) : Ev (mkC S sc ro room g) (.ListComp elt [⟨tgt, iter, ifs, 0⟩] scope pos) ρ σ Q X := by
  refine ⟨fun s x => ?_⟩
  show wpAny (model S.prog S.w) g.A (eval (.ListComp elt [⟨tgt, iter, ifs, 0⟩] scope pos) g.env) _ _ s
  rw [eval_ListComp]
  have hfree : ∀ x ∈ scope.names, x.2 = .free → (g.env.cells.lookup x.1).isSome = true := fun y hy hf => hc _ (compOk_free hok hy hf)
  have hnames : ∀ y ∈ scope.names, y.2 = .local → scope.names.lookup y.1 = some .local := fun y hy hl => by
    have := compOk_other hok hy (by rw [hl]; decide)
    rw [hl] at this; exact this
  refine wpAny_comprehension_free (use := none) rfl hs (closureFor_eq hfree) (compOk_kind hok) hnames (wpAny_mono (h.run s x) (fun v s₁ ⟨p, σ₁, hv, x₁, k₁, fz, pvs, hit, hfz, hlen, hL⟩ => ?_) fun _ _ e => e)
  refine comp_block (RR := fun acc Cl => compPost (model S.prog S.w) g.A _ none _ acc Cl) ok hc hok x₁ hv hit hfz hlen hL ?_
  rintro acc Cl r s' ⟨rfl, D, ps, σ₂, m, rfl, hn, h0, x', k', hσ, hσD, hq⟩
  refine ⟨m, hn, fun h' hs' => ?_⟩
  obtain ⟨x'', k''⟩ := x'.let_go (t := s'.toks) ok k' h0 x₁ hσ hn hs'
  exact ⟨.ref D, _, .ref D, x'', k₁.trans k'', hq D hσD⟩

/-- y = [elt for ..] on one line: the name is stored ahead of the letting go -/
theorem Ex.assignComp {y : Str} {tgt iter elt : Expr} {ifs : List Expr} {scope : Scope} {p' pos spos : Pos} {Q : Fl → Loc → Sig → Prop} (ok : (mkC S sc ro room g).Ok) (hk : kdOf sc y = some .local) (hc : ∀ x, kdOf sc x = some .cell → (g.env.cells.lookup x).isSome) (hok : compOk scope sc = true)
    (hsw : swapsWith (.ListComp elt [⟨tgt, iter, ifs, 0⟩] scope pos) (some (.Name y p')) spos.line g.env = pure true)
    (h : Ev (mkC S sc ro room g) iter ρ σ (fun p σ₁ => ∃ fz pvs, Iterates (mkC S sc ro room g) tgt p σ₁ fz pvs ∧ (∀ b ∈ fz, ∃ o, σ₁ b = some o) ∧ pvs.length ≤ 100000 ∧
      ∀ g', (mkC S (compSc scope) (fz ++ ro) room g').Ok → CompL (mkC S (compSc scope) (fz ++ ro) room g') tgt ifs elt (locC scope ρ) (fun ps σ₂ => ∀ a, σ₂ a = none → Q .next (ρ.set y (.ref a)) (σ₂.set a (.list ps))) pvs σ₁ []) X)
    (hs : ∀ x, foldedSetIterable iter g.env x = pure x := by intro _; rfl) : Ex (mkC S sc ro room g) (.Assign [.Name y p'] (.ListComp elt [⟨tgt, iter, ifs, 0⟩] scope pos) spos) ρ σ Q X := by
  refine ⟨fun s x => ?_⟩
  show wpAny (model S.prog S.w) g.A (exec (.Assign [.Name y p'] (.ListComp elt [⟨tgt, iter, ifs, 0⟩] scope pos) spos) g.env) _ _ s
  rw [exec_Assign_Name_used _ _ _ _ hsw]
  refine wpAny_bind (wpAny_standAt (wpAny_bind ?_))
  show wpAny _ _ (do let _ ← comprehension (.ListComp elt [⟨tgt, iter, ifs, 0⟩] scope pos) scope g.env _ (newList []) false (eval iter g.env) (some (PySem.assign (Expr.Name y p') g.env))) _ _ s
  have hfree : ∀ x ∈ scope.names, x.2 = .free → (g.env.cells.lookup x.1).isSome = true := fun y hy hf => hc _ (compOk_free hok hy hf)
  have hnames : ∀ y ∈ scope.names, y.2 = .local → scope.names.lookup y.1 = some .local := fun y hy hl => by
    have := compOk_other hok hy (by rw [hl]; decide)
    rw [hl] at this; exact this
  refine wpAny_bind (wpAny_mono (wpAny_comprehension_free (use := some (PySem.assign (Expr.Name y p') g.env)) (Q := fun _ s' => PostS (mkC S sc ro room g) σ s Q .next s') rfl hs (closureFor_eq hfree) (compOk_kind hok) hnames
    (wpAny_mono (h.run s x) (fun v s₁ ⟨p, σ₁, hv, x₁, k₁, fz, pvs, hit, hfz, hlen, hL⟩ => ?_) fun _ _ e => e)) (fun _ s' hq => wpAny_pure (wpAny_pure hq)) fun _ _ e => e)
  refine comp_block (RR := fun acc Cl => compPost (model S.prog S.w) g.A _ (some (PySem.assign (Expr.Name y p') g.env)) _ acc Cl) ok hc hok x₁ hv hit hfz hlen hL ?_
  rintro acc Cl r s' ⟨rfl, D, ps, σ₂, m, rfl, hn, h0, x', k', hσ, hσD, hq⟩
  show wpAny _ _ (PySem.assign (Expr.Name y p') g.env (.ref D)) _ _ _
  refine wpAny_assign_Name (wp_store ok x' (.ref D) (.inl hk) fun s₃ x₃ k₃ => ?_)
  have hCo : Cl ∉ (mkC S sc ro room g).own := x₁.fresh_own h0
  have hC₃ : s₃.heap.get? Cl = s'.heap.get? Cl := by
    obtain ⟨o, es, ep, ho, hd, _⟩ := id hn
    obtain ⟨o', e', q⟩ := k₃.kept Cl o ho (by
      rintro (h | ⟨h, _⟩)
      · exact hCo h
      · rw [hσ] at h; cases h)
    rcases q with rfl | ⟨q, _⟩
    · rw [e', ho]
    · exact (x₁.fresh_fs h0 q).elim
  have hn₃ : s₃.heap.Ns Cl m := by
    obtain ⟨o, es, ep, ho, r⟩ := hn
    exact ⟨o, es, ep, by rw [hC₃]; exact ho, r⟩
  refine ⟨m, hn₃, fun h' hs' => ?_⟩
  have x₁' : St (mkC S sc ro room g) ρ σ₁ s₁ := x₁
  have ext : ∀ b o, b ≠ Cl → s₃.heap.get? b = some o → h'.get? b = some o := fun b o hb e => hs'.extBut b o hb e
  obtain ⟨o, es, ep, ho, hd, _⟩ := id hn₃
  have x₄ : St (mkC S sc ro room g) (ρ.set y (.ref D)) (σ₂.set D (.list ps)) { s₃ with heap := h', toks := s₃.toks } := x₃.aside ok ⟨hCo, x₁.fresh_fs h0, .inr hσ⟩ (x₁.fresh_base h0) hσ (by
    rintro vs ⟨o', e, _, n, r⟩
    rw [ho] at e; cases e; rw [hd] at r; cases r) (fun z c e q => by
    obtain ⟨v, o', e', r⟩ := x₃.fr.cells z c e
    rw [q, ho] at e'; cases e'; rw [hd] at r; cases r) ext
  have k₄ : Step (mkC S sc ro room g) σ₁ s₁ (σ₂.set D (.list ps)) { s₃ with heap := h', toks := s₃.toks } := Stp.but h0 (k'.trans k₃) ext
  exact ⟨.next, _, _, trivial, x₄, k₁.trans k₄, hq D hσD⟩
end

/-- a comprehension that alters nothing -/
theorem CompL.pure {C : Cx} {tgt elt : Expr} {ifs : List Expr} {ρ : Loc} {σ : Sig} {Q : List PV → Sig → Prop} (b : PV → Bool) (f : PV → PV) : ∀ (pvs acc : List PV),
    (∀ p ∈ pvs, ∃ ρ₁, Bind1 C tgt p ρ ρ₁ ∧ LSub ρ ρ₁ ∧ Tes C ifs ρ₁ σ (fun c σ₁ => c = b p ∧ σ₁ = σ) ∧ (b p = true → Ev C elt ρ₁ σ (fun q σ₂ => q = f p ∧ σ₂ = σ) noX)) →
    Q (acc ++ (pvs.filter b).map f) σ → CompL C tgt ifs elt ρ Q pvs σ acc
  | [], acc, _, h => by show Q acc σ; simpa using h
  | p :: ps, acc, hp, h => by
    obtain ⟨ρ₁, h1, h2, h3, h4⟩ := hp p List.mem_cons_self
    refine ⟨ρ₁, h1, h2, ?_⟩
    have key : ∀ (cs : List Expr) (σ' : Sig) (Q₁ Q₂ : Bool → Sig → Prop), (∀ c σ, Q₁ c σ → Q₂ c σ) → Tes C cs ρ₁ σ' Q₁ → Tes C cs ρ₁ σ' Q₂ := by
      intro cs
      induction cs with
      | nil => intro σ' Q₁ Q₂ hq h; exact hq _ _ h
      | cons c cs ih =>
        intro σ' Q₁ Q₂ hq h
        refine ⟨fun s x => wpAny_mono (Te.run h s x) (fun c s' ⟨σ', a1, a2, a3⟩ => ⟨σ', a1, a2, ?_⟩) fun _ _ e => e⟩
        cases c with
        | true => exact ih _ _ _ hq a3
        | false => exact hq _ _ a3
    refine key _ _ _ _ ?_ h3
    rintro c σ' ⟨rfl, rfl⟩
    cases hb : b p with
    | false =>
      refine CompL.pure b f ps acc (fun q hq => hp q (List.mem_cons_of_mem _ hq)) ?_
      simpa [hb] using h
    | true =>
      refine Ev.mono (h4 hb) ?_
      rintro q σ₂ ⟨rfl, rfl⟩
      refine CompL.pure b f ps _ (fun q hq => hp q (List.mem_cons_of_mem _ hq)) ?_
      simpa [hb] using h
end SR

set_option maxRecDepth 100000
set_option linter.unusedVariables false
set_option linter.unusedSectionVars false
set_option linter.unusedSimpArgs false
namespace SR
open PySem

section
variable {C : Cx} {ρ : Loc} {σ : Sig} {X : String → Sig → Prop} {Q : PV → Sig → Prop}
theorem OpS.pair1 {value slice : Expr} {a b : PV} (h : Q b σ) (hs : noSlice slice = true := by rfl) : OpS C value slice (.tup [a, b]) (.int 1) ρ σ Q X := OpS.tuple (j := 1) rfl rfl (by decide) (by decide) h hs
theorem OpN.values {d : Addr} {kvs : List (Str × PV)} (hd : σ d = some (.dict kvs)) (h : ∀ a, σ a = none → Q (.ref a) (σ.set a (.vals d))) : OpN C (.builtin "dict.values") [.ref d] ρ σ Q X := by
  refine ⟨fun s vs x hv => ?_⟩
  obtain ⟨v1, ws, rfl, r1, rs⟩ := hv.cons_inv
  obtain rfl := rs.nil_inv
  cases r1
  obtain ⟨hsm, ws, hm, dp⟩ := (x.sig _ _ hd).2
  refine call_meetsIn F.slot_dict_values hm.typeIs F.entry_dict_values (F.args_dict_values_1 _) (meets_dict_values (strKind _ _) d hsm) ⟨⟨_, hm⟩, ?_⟩
  exact Post.alloc (t := s.toks) (.vals d) x (fun b o e => Heap.get?_push_of_some _ e) (heap_fresh _) ⟨_, Heap.get?_push_size _ rfl, rfl, rfl⟩ (h _)
/-- sum(d.values()) -/
theorem OpN.sum_vals {v d : Addr} {l : List (Str × Int)} (ok : C.Ok) (hv : σ v = some (.vals d)) (hd : σ d = some (.dict (sd l))) (h : Q (.int (l.map (·.2)).sum) σ) : OpN C (.builtin "sum") [.ref v] ρ σ Q X := by
  refine ⟨fun s vs x hvs => ?_⟩
  obtain ⟨v1, ws, rfl, r1, rs⟩ := hvs.cons_inv
  obtain rfl := rs.nil_inv
  cases r1
  have hvw : s.heap.IsValuesView v d := (x.sig _ _ hv).2
  obtain ⟨hsm, ws, hm, dp⟩ := (x.sig _ _ hd).2
  obtain ⟨ep, hm'⟩ := hm.dictAt
  have K := PySem.W.kdl_values (r := v) (knd := strKind C.S.prog C.S.w) (kvs := ws) (ep := ep) (d := d)
  have hok : s.heap.IsValuesView v d ∧ s.heap.DictAt (strKind C.S.prog C.S.w) d ws ep := ⟨hvw, hm'⟩
  refine call_sum_walkAnyS ?_
  obtain ⟨oI, St', hit, W, st⟩ := K.iter C.A.in1 s ok.hh hok
  refine hit _ _ ⟨s.heap.objs.size, _, _, _, ws.length, _, _, fun i => (l.map (·.2)).getD i 0, rfl, W.toS, st, fun b hb => ?_, fun i u hu => ?_, fun s' t' hm => ?_⟩
  · show b < (s.heap.push oI).objs.size
    rw [Heap.size_push]
    rcases List.mem_cons.mp hb with e | hb
    · rw [e]; exact Nat.lt_succ_self _
    · rw [List.mem_singleton.mp hb]; exact Nat.lt_succ_of_lt (K.there _ hok).2
  · obtain ⟨k, hj⟩ := hu
    obtain ⟨q, hq, r⟩ := dp.at hj
    have hq' : (l[i]?).map (fun x => (x.1, PV.int x.2)) = some (k, q) := by simpa [sd] using hq
    obtain ⟨y, hy, e⟩ := Option.map_eq_some_iff.mp hq'
    cases e
    cases r with
    | int i' t => exact ⟨t, by simp [hy]⟩
  · have hk : ∀ b o, s.heap.get? b = some o → s'.heap.get? b = some o := fun b o e =>
      hm.heap b o (fun hI => absurd (Heap.lt_size e) (by rw [List.mem_singleton.mp hI]; exact Nat.lt_irrefl _)) (Heap.get?_push_of_some _ e)
    rw [Moved.eq_with hm]
    have e : preSum (fun i => (l.map (·.2)).getD i 0) ws.length = (l.map (·.2)).sum := by
      rw [PyProof.Rows.preSum_getD, List.take_of_length_le (by rw [dp.length, sd_length, List.length_map]; exact Nat.le_refl _)]
    rw [e]
    exact ⟨.int _, σ, .int _ _, x.ext hk, Stp.ext hk, h⟩
end

/-! plain facts about stocks -/
theorem sSet_nodup {l : List (Str × Int)} {k : Str} {i : Int} (h : (l.map (·.1)).Nodup) : ((sSet l k i).map (·.1)).Nodup := by
  rw [sSet_keys]; split
  · exact h
  · next hk => exact List.nodup_append.mpr ⟨h, by simp, fun a ha b hb e => by simp at hb; subst hb; subst e; exact hk ha⟩
theorem sGet_cons (x : Str × Int) (l : List (Str × Int)) (k : Str) : sGet (x :: l) k = if x.1 = k then some x.2 else sGet l k := by
  unfold sGet; by_cases h : x.1 = k <;> simp [h]
theorem sDel_sSet (l : List (Str × Int)) (k : Str) (i : Int) : sDel (sSet l k i) k = sDel l k := by
  unfold sSet sDel
  split
  · induction l with
    | nil => simp
    | cons x l ih =>
      by_cases h : x.1 = k
      · by_cases h2 : (l.any fun x => decide (x.1 = k)) = true
        · simpa [h] using ih h2
        · have : l.map (fun x => if x.1 = k then (x.1, i) else x) = l := by
            refine (List.map_congr_left fun y hy => ?_).trans (List.map_id _)
            have : ¬ y.1 = k := fun e => h2 (List.any_eq_true.mpr ⟨y, hy, by simpa using e⟩)
            simp [this]
          simp [h, this]
      · next h3 =>
        have h2 : (l.any fun x => decide (x.1 = k)) = true := by simpa [h] using h3
        simpa [h] using ih h2
  · simp
theorem sGet_mem {l : List (Str × Int)} (hn : (l.map (·.1)).Nodup) {x : Str × Int} (hx : x ∈ l) : sGet l x.1 = some x.2 := by
  induction l with
  | nil => cases hx
  | cons y l ih =>
    rw [sGet_cons]
    rcases List.mem_cons.mp hx with rfl | hx
    · simp
    · have hn' := List.nodup_cons.mp hn
      have : y.1 ≠ x.1 := fun e => hn'.1 (List.mem_map.mpr ⟨x, hx, e.symm⟩)
      rw [if_neg this]; exact ih hn'.2 hx
theorem tes_end {C : Cx} {ρ : Loc} {σ : Sig} {Q : Bool → Sig → Prop} {b : Bool} (h : Q b σ) : if b = true then Tes C [] ρ σ Q else Q false σ := by cases b <;> exact h
theorem rows_filter (l : List (Str × Int)) (b : PV → Bool) (c : Str × Int → Bool) (h : ∀ x ∈ l, b (row x) = c x) : (rows l).filter b = rows (l.filter c) := by
  unfold rows
  rw [List.filter_map]
  congr 1
  exact List.filter_congr h
end SR

set_option maxRecDepth 100000
set_option linter.unusedVariables false
set_option linter.unusedSectionVars false
set_option linter.unusedSimpArgs false
namespace SR
open PySem

section
variable {C : Cx} {ρ : Loc} {σ : Sig} {X : String → Sig → Prop}
theorem Te.val {e : Expr} {Q : Bool → Sig → Prop} (h : Ev C e ρ σ (fun a σ₁ => OpT C a ρ σ₁ Q X) X) (hp : isTrue e C.env (eval e C.env) = (do let v ← eval e C.env; standAt e.pos; holding [v] (truthy v)) := by rfl) : Te C e ρ σ Q X := by
  refine ⟨fun s x => ?_⟩
  refine PyProof.Rows.isTrue_plain (wp_use (α := Unit) (h.run s x) (fun va s₁ a σ₁ ra x₁ k₁ t₁ h₁ => ?_) x) hp
  exact wp_on k₁ (h₁.run s₁ va x₁ ra) fun _ _ p => p.step k₁
/-- for, with a ground of one's choice for the turns -/
theorem Ex.forD {tgt iter : Expr} {body : List Stmt} {pos : Pos} {Q : Fl → Loc → Sig → Prop} (ok : C.Ok)
    (h : Ev C iter ρ σ (fun p σ₁ => ∃ fz pvs σ₀, Iterates C tgt p σ₁ fz pvs ∧ Sub σ₀ σ₁ ∧ (∀ b ∈ fz, ∃ o, σ₀ b = some o) ∧ ForL (C.frz fz) tgt body pvs ρ σ₀ Q) X)
    (hs : ∀ x, foldedSetIterable iter C.env x = pure x := by intro _; rfl) : Ex C (.For tgt iter body [] pos) ρ σ Q X := by
  refine ⟨fun s x => ?_⟩
  refine wpAny_For (wp_use (α := Unit) (h.run s x) (fun v s₁ p σ₁ r x₁ k₁ t₁ h₁ => ?_) x) hs
  obtain ⟨fz, pvs, σ₀, hit, hsub, hfz, hfor⟩ := h₁
  refine hit ρ s₁ v _ _ x₁ r fun I fp J h' tk hk hI W hJ hfp => ?_
  have W' : AIter (C.frz fz).S.prog (C.frz fz).S.w (C.frz fz).A I tgt fp J := W
  have x₀ : St C ρ σ₀ s₁ := x₁.drop (fun _ _ e => e) hsub
  have x₂ := (x₀.ext (t := tk) hk).frz fz
  have k₂ : Step (C.frz fz) σ₀ s₁ σ₀ { s₁ with heap := h', toks := tk } := Stp.ext hk
  have := forLoop_sound (ok.frz fz) W' s₁ σ₀ hI _ pvs x₂ k₂ hJ (ground_of (t := tk) x₀ hI hfz hfp) hfor
  refine codeAny_mono this ?_
  rintro r s' ⟨f, rfl, fl, ρ', σ', h1, h2, h3, h4⟩
  exact ⟨fl, ρ', σ', h1, h2.unfrz, (k₁.dropR hsub).trans h3.unfrz, h4⟩
end
section
variable {S : Sx} {sc : Scope} {ro ro' : List Addr} {room : Nat} {g : Gh} {ρ : Loc} {σ : Sig} {X : String → Sig → Prop} {Q : Fl → Loc → Sig → Prop}
theorem Ex.forN {tgt iter : Expr} {body : List Stmt} {pos : Pos} (ok : (mkC S sc ro room g).Ok)
    (h : Ev (mkC S sc ro room g) iter ρ σ (fun p σ₁ => ∃ fz pvs σ₀, Iterates (mkC S sc ro room g) tgt p σ₁ fz pvs ∧ Sub σ₀ σ₁ ∧ (∀ b ∈ fz, ∃ o, σ₀ b = some o) ∧ ForL (mkC S sc (fz ++ ro) room g) tgt body pvs ρ σ₀ Q) X)
    (hs : ∀ x, foldedSetIterable iter g.env x = pure x := by intro _; rfl) : Ex (mkC S sc ro room g) (.For tgt iter body [] pos) ρ σ Q X := Ex.forD ok h hs
theorem Fn.weaken {fa : Addr} {ps : List PV} {Q : PV → Sig → Prop} (h : Fn S fa ro room ps σ (fun p σ₂ => ∃ σ₁, Sub σ₁ σ₂ ∧ Q p σ₁)) : Fn S fa ro room ps σ Q := fun A frs s vs r g v =>
  codeAny_mono (h A frs s vs r g v) fun _ _ ⟨v, p, σ', h1, h2, h3, h4, σ₁, h5, h6⟩ =>
    ⟨v, p, σ₁, h1, h2, ⟨h3.base, h3.os, h3.gens, fun a o e => h3.sig a o (h5 a o e), h3.frames, fun a o e => h3.offF a o (h5 a o e)⟩, h4.dropR h5, h6⟩
end

/-! deliveries -/
theorem sRecv_nodup {l : List (Str × Int)} {k : Str} {n : Int} (h : (l.map (·.1)).Nodup) : ((sRecv l k n).map (·.1)).Nodup := sSet_nodup h
theorem sRecv_length_le (l : List (Str × Int)) (k : Str) (n : Int) : (sRecv l k n).length ≤ l.length + 1 := sSet_length_le _ _ _
theorem sum_sSet {l : List (Str × Int)} (k : Str) (i : Int) (h : (l.map (·.1)).Nodup) : ((sSet l k i).map (·.2)).sum = (l.map (·.2)).sum - (sGet l k).getD 0 + i := by
  induction l with
  | nil => simp [sSet, sGet]
  | cons x l ih =>
    have h' := List.nodup_cons.mp h
    have hx : x.1 ∉ l.map (·.1) := h'.1
    have ih := ih h'.2
    rw [sGet_cons]
    unfold sSet at ih ⊢
    by_cases e : x.1 = k
    · have hl : l.map (fun x => if x.1 = k then (x.1, i) else x) = l := by
        refine (List.map_congr_left fun y hy => ?_).trans (List.map_id _)
        have : ¬ y.1 = k := fun q => hx (List.mem_map.mpr ⟨y, hy, q.trans e.symm⟩)
        simp [this]
      simp only [List.any_cons, e, decide_true, Bool.true_or, if_true, List.map_cons, hl, List.sum_cons, Option.getD_some]
      omega
    · simp only [List.any_cons, e, decide_false, Bool.false_or, if_false, List.map_cons, List.sum_cons]
      split
      · next ha => rw [if_pos ha] at ih; simp only [List.map_cons, List.sum_cons, e, if_false]; omega
      · next ha => rw [if_neg ha] at ih; simp only [List.cons_append, List.map_cons, List.sum_cons]; omega
theorem sum_sRecv {l : List (Str × Int)} (k : Str) (n : Int) (h : (l.map (·.1)).Nodup) : ((sRecv l k n).map (·.2)).sum = (l.map (·.2)).sum + n := by
  unfold sRecv; rw [sum_sSet _ _ h]; omega
def recvAll (l dl : List (Str × Int)) : List (Str × Int) := dl.foldl (fun l x => sRecv l x.1 x.2) l
theorem recvAll_snoc (l dl : List (Str × Int)) (x : Str × Int) : recvAll l (dl ++ [x]) = sRecv (recvAll l dl) x.1 x.2 := by simp [recvAll, List.foldl_append]
theorem take_snoc {α : Type} {l : List α} {i : Nat} {x : α} (h : l[i]? = some x) : l.take (i + 1) = l.take i ++ [x] := by rw [List.take_add_one, h]; rfl
theorem lt_of_get {α : Type} {l : List α} {i : Nat} {x : α} (h : l[i]? = some x) : i < l.length := by
  obtain ⟨h, _⟩ := List.getElem?_eq_some_iff.mp h; exact h
theorem rows_get {l : List (Str × Int)} {i : Nat} {p : PV} (h : (rows l)[i]? = some p) : ∃ x, l[i]? = some x ∧ p = row x := by
  rw [rows, List.getElem?_map] at h
  obtain ⟨x, hx, rfl⟩ := Option.map_eq_some_iff.mp h
  exact ⟨x, hx, rfl⟩
theorem not_ro {σ : Sig} {ro : List Addr} {b : Addr} (hro : ∀ a ∈ ro, (σ a).isSome = true) (hb : σ b = none) : b ∉ ro := fun h => by have := hro b h; rw [hb] at this; cases this
theorem ne_dl {σ : Sig} {a b : Addr} {kvs : List (Str × PV)} {ps : List PV} (h1 : σ a = some (.dict kvs)) (h2 : σ b = some (.list ps)) : a ≠ b := fun e => by subst e; rw [h1] at h2; cases h2
theorem rows_filter_true (l : List (Str × Int)) : (rows l).filter (fun _ => true) = rows l := List.filter_eq_self.mpr fun _ _ => rfl
def pv0 : PV → PV
  | .tup (a :: _) => a
  | p => p
def pv1 : PV → PV
  | .tup (_ :: a :: _) => a
  | p => p
theorem rows_pv0 (l : List (Str × Int)) : (rows l).map pv0 = (l.map (·.1)).map .str := by simp [rows, row, pv0]
theorem rows_pv1 (l : List (Str × Int)) : (rows l).map pv1 = (l.map (·.2)).map .int := by simp [rows, row, pv1]
end SR

set_option maxRecDepth 100000
set_option linter.unusedVariables false
set_option linter.unusedSectionVars false
set_option linter.unusedSimpArgs false
namespace SR
open PySem

theorem VRs.eraseIdx {h : Heap} : ∀ (n : Nat) {vs : List Value} {ps : List PV}, VRs h vs ps → VRs h (vs.eraseIdx n) (ps.eraseIdx n)
  | _, _, _, .nil => by simpa using VRs.nil
  | 0, _, _, .cons _ r => by simpa using r
  | n + 1, _, _, .cons e r => by simpa using VRs.cons e (r.eraseIdx n)
/-! the order of texts -/
section
variable {C : Cx} {ρ : Loc} {σ : Sig} {X : String → Sig → Prop} {Q : PV → Sig → Prop}
theorem OpN.isinst {T : String} {p : PV} (hT : IsT C T p σ) (hty : typeOf (.type T) = pure (.type "type")) (hsub : isSubtype (.type T) (.type T) = pure true) (h : Q (.bool true) σ) : OpN C (.builtin "isinstance") [p, .ty T] ρ σ Q X := by
  refine ⟨fun s vs x hv => ?_⟩
  obtain ⟨v1, ws, rfl, r1, rs⟩ := hv.cons_inv
  obtain ⟨v2, ws, rfl, r2, rs⟩ := rs.cons_inv
  obtain rfl := rs.nil_inv
  cases r2
  exact PyProof.Rows.call_isinstance_yes (hT ρ s v1 x r1).1 hty hsub (.here x (.bool _) h)
theorem OpN.isinst_dict {l : Addr} {kvs : List (Str × PV)} (hl : σ l = some (.dict kvs)) (h : Q (.bool true) σ) : OpN C (.builtin "isinstance") [.ref l, .ty "dict"] ρ σ Q X :=
  OpN.isinst (IsT.dict hl) (by first | rfl | kernel_rfl) (by rw [isSubtype_type]; kernel_rfl) h
/-- list(a list) -/
theorem OpN.list_list {l : Addr} {ps : List PV} (hl : σ l = some (.list ps)) (hsz : ps.length ≤ 1000) (h : ∀ a, σ a = none → Q (.ref a) (σ.set a (.list ps))) : OpN C (.type "list") [.ref l] ρ σ Q X := by
  refine ⟨fun s vs x hv => ?_⟩
  obtain ⟨v1, ws, rfl, r1, rs⟩ := hv.cons_inv
  obtain rfl := rs.nil_inv
  cases r1
  obtain ⟨us, pl, hs⟩ := (x.sig _ _ hl).2
  obtain ⟨n, ho⟩ := id pl
  refine call_list_seq l (T := "list") (.inl rfl) ho rfl rfl (fun h' c' hk hS => ?_) (by show us.toArray.size ≤ 2 ^ 24; rw [List.size_toArray, hs.length]; omega)
  exact Post.alloc (t := s.toks) (.list ps) x hk (heap_fresh _) ⟨us, ⟨c', hS⟩, hs.mono (.of_ext hk)⟩ (h _)
/-- list(a tuple) -/
theorem OpN.list_tuple {ps : List PV} (hsz : ps.length ≤ 1000) (h : ∀ a, σ a = none → Q (.ref a) (σ.set a (.list ps))) : OpN C (.type "list") [.tup ps] ρ σ Q X := by
  refine ⟨fun s vs x hv => ?_⟩
  obtain ⟨v1, ws, rfl, r1, rs⟩ := hv.cons_inv
  obtain rfl := rs.nil_inv
  cases r1 with
  | @tup t us _ ht hs =>
    obtain ⟨o, ho, hc, n, hd⟩ := ht
    refine call_list_seq t (T := "tuple") (.inr rfl) ho hc hd (fun h' c' hk hS => ?_) (by show us.toArray.size ≤ 2 ^ 24; rw [List.size_toArray, hs.length]; omega)
    exact Post.alloc (t := s.toks) (.list ps) x hk (heap_fresh _) ⟨us, ⟨c', hS⟩, hs.mono (.of_ext hk)⟩ (h _)
/-- list + list -/
theorem Op2.addl {a b : Addr} {ps qs : List PV} (ha : σ a = some (.list ps)) (hb : σ b = some (.list qs)) (hsz : ps.length + qs.length ≤ 1000) (h : ∀ c, σ c = none → Q (.ref c) (σ.set c (.list (ps ++ qs)))) : OpBin C .Add (.ref a) (.ref b) ρ σ Q X := by
  refine ⟨fun s v u x hv hu => ?_⟩
  cases hv; cases hu
  obtain ⟨us, pl, hs⟩ := (x.sig _ _ ha).2
  obtain ⟨ws, pl', hs'⟩ := (x.sig _ _ hb).2
  obtain ⟨n, ho⟩ := id pl
  obtain ⟨n', ho'⟩ := id pl'
  have kp : ∀ b o, s.heap.get? b = some o → (s.heap.push { cls := .type "list", data := .seq (us.toArray ++ ws.toArray) }).get? b = some o := fun b o e => Heap.get?_push_of_some _ e
  refine P.add_list (n := n) (n2 := n') ho ho' ?_ (by show us.toArray.size + ws.toArray.size ≤ 2 ^ 24; rw [List.size_toArray, List.size_toArray, hs.length, hs'.length]; omega)
  exact Post.alloc (t := s.toks) (.list (ps ++ qs)) x kp (heap_fresh _) ⟨us ++ ws, ⟨0, by simpa using Heap.get?_push_size _ rfl⟩, (hs.append hs').mono (.of_ext kp)⟩ (h _)
/-- l.pop(k) -/
theorem OpN.lpop {l : Addr} {ps : List PV} {k : Int} {p : PV} (ok : C.Ok) (hl : σ l = some (.list ps)) (hro : l ∉ C.ro) (hsz : ps.length ≤ 1000) (h0 : 0 ≤ k) (hp : ps[k.toNat]? = some p) (h : Q p (σ.set l (.list (ps.eraseIdx k.toNat)))) : OpN C (.builtin "list.pop") [.ref l, .int k] ρ σ Q X := by
  refine ⟨fun s vs x hv => ?_⟩
  obtain ⟨v1, ws, rfl, r1, rs⟩ := hv.cons_inv
  obtain ⟨v2, ws, rfl, r2, rs⟩ := rs.cons_inv
  obtain rfl := rs.nil_inv
  cases r1; cases r2
  obtain ⟨us, pl, hs⟩ := (x.sig _ _ hl).2
  obtain ⟨n, ho⟩ := id pl
  obtain ⟨v, hv, r⟩ := hs.get _ p hp
  have hlt : k.toNat < ps.length := lt_of_get hp
  have hul := hs.length
  refine call_meets F.slot_list_pop ⟨_, ho, rfl⟩ F.entry_list_pop (F.args_list_pop_2 _ _) (MeetsSeq.list_pop_at l us.toArray n k _ k.toNat v ?_ ?_ (by simpa using hv) (by show us.toArray.size ≤ 2 ^ 24; rw [List.size_toArray, hul]; omega)) ⟨ho, ?_⟩
  · exact fitsIndex_of h0 (by omega)
  · rw [List.size_toArray]; exact seqIndex_pos h0 (by omega)
  · have ext : ∀ b o, b ≠ l → s.heap.get? b = some o → (s.heap.update l (Obj.mapSeq fun xs => xs.eraseIdxIfInBounds k.toNat)).get? b = some o := fun b o hb e => by
      rw [Heap.get?_update_other _ _ (Ne.symm hb)]; exact e
    have tk : TupKept s.heap (s.heap.update l (Obj.mapSeq fun xs => xs.eraseIdxIfInBounds k.toNat)) := TupKept.but (fun vs => x.not_tup hl vs) ext
    have hat := Heap.get?_update_self (Obj.mapSeq fun xs => xs.eraseIdxIfInBounds k.toNat) ho rfl
    refine Post.upd (t := s.toks) (.list (ps.eraseIdx k.toNat)) ok x hl hro ext ⟨us.eraseIdx k.toNat, ?_, (hs.eraseIdx _).mono tk⟩ (r.mono tk) h
    have e : us.toArray.eraseIdxIfInBounds k.toNat = (us.eraseIdx k.toNat).toArray := by simp
    rw [← e]
    exact ⟨_, hat⟩
end
end SR

set_option maxRecDepth 100000
set_option linter.unusedVariables false
set_option linter.unusedSectionVars false
set_option linter.unusedSimpArgs false
namespace SR
open PySem

section
variable {S : Sx} {sc : Scope} {ro : List Addr} {room : Nat} {g : Gh} {ρ : Loc} {σ : Sig} {X : String → Sig → Prop}
theorem swaps_true {y : Str} {elt : Expr} {gs : List Comprehension} {scope : Scope} {p' pos spos : Pos} (ok : (mkC S sc ro room g).Ok) (hk : kdOf sc y = some .local) (hp : (p'.line == pos.line) = true)
    (hn : (scope.names.any fun x => x.1 == y && (x.2 == .local || x.2 == .cell)) = false) : swapsWith (.ListComp elt gs scope pos) (some (.Name y p')) spos.line g.env = pure true := by
  have h1 : g.env.blockKind = .function := by
    have : g.env.scope.kind = .function := ok.kind
    unfold Env.blockKind; rw [this]; rfl
  have h2 : g.env.kindOf y = some .local := ok.kinds y _ hk
  show (pure (g.env.blockKind == .function && g.env.kindOf y == some .local && p'.line == pos.line && !(scope.names.any fun x => x.1 == y && (x.2 == .local || x.2 == .cell))) : Sem Bool) = pure true
  rw [h1, h2, hp, hn]; rfl
theorem Ex.assignC {y : Str} {tgt iter elt : Expr} {ifs : List Expr} {scope : Scope} {p' pos spos : Pos} {Q : Fl → Loc → Sig → Prop} (ok : (mkC S sc ro room g).Ok) (hk : kdOf sc y = some .local) (hc : ∀ x, kdOf sc x = some .cell → (g.env.cells.lookup x).isSome) (hok : compOk scope sc = true)
    (hp : (p'.line == pos.line) = true) (hn : (scope.names.any fun x => x.1 == y && (x.2 == .local || x.2 == .cell)) = false)
    (h : Ev (mkC S sc ro room g) iter ρ σ (fun p σ₁ => ∃ fz pvs, Iterates (mkC S sc ro room g) tgt p σ₁ fz pvs ∧ (∀ b ∈ fz, ∃ o, σ₁ b = some o) ∧ pvs.length ≤ 100000 ∧
      ∀ g', (mkC S (compSc scope) (fz ++ ro) room g').Ok → CompL (mkC S (compSc scope) (fz ++ ro) room g') tgt ifs elt (locC scope ρ) (fun ps σ₂ => ∀ a, σ₂ a = none → Q .next (ρ.set y (.ref a)) (σ₂.set a (.list ps))) pvs σ₁ []) X)
    (hs : ∀ x, foldedSetIterable iter g.env x = pure x := by intro _; rfl) : Ex (mkC S sc ro room g) (.Assign [.Name y p'] (.ListComp elt [⟨tgt, iter, ifs, 0⟩] scope pos) spos) ρ σ Q X :=
  Ex.assignComp ok hk hc hok (swaps_true ok hk hp hn) h hs
end

/-! places in a sorted list -/
end SR

set_option maxRecDepth 100000
set_option linter.unusedVariables false
set_option linter.unusedSectionVars false
set_option linter.unusedSimpArgs false
namespace SR
open PySem

section
variable {C : Cx} {ρ : Loc} {σ : Sig} {X : String → Sig → Prop} {Q : PV → Sig → Prop}
/-- d.copy() -/
theorem OpN.copy {d : Addr} {kvs : List (Str × PV)} (ok : C.Ok) (hd : σ d = some (.dict kvs)) (hsz : kvs.length ≤ 1000) (h : ∀ a, σ a = none → Q (.ref a) (σ.set a (.dict kvs))) : OpN C (.builtin "dict.copy") [.ref d] ρ σ Q X := by
  refine ⟨fun s vs x hv => ?_⟩
  obtain ⟨v1, ws, rfl, r1, rs⟩ := hv.cons_inv
  obtain rfl := rs.nil_inv
  cases r1
  obtain ⟨hsm, ws, hm, dp⟩ := (x.sig _ _ hd).2
  refine call_meetsIn F.slot_dict_copy hm.typeIs F.entry_dict_copy (F.args_dict_copy_1 _) (meets_dict_copy (strKind _ _) d hsm) ⟨ws, hm, by rw [dp.length]; show _ ≤ 2 ^ 24; omega, fun h' hm' _ hk => ?_⟩
  exact Post.alloc (t := s.toks) (.dict kvs) x hk (heap_fresh _) ⟨not_sysModules x ok, ws, hm', dp.mono (.of_ext hk)⟩ (h _)
def dMerge (kvs more : List (Str × PV)) : List (Str × PV) := more.foldl (fun acc kv => dSet acc kv.1 kv.2) kvs
theorem DP.merged {h : Heap} {ws us : List (Str × Value)} {kvs more : List (Str × PV)} (x : DP h ws kvs) (y : DP h us more) : DP h (PySem.merged ws us) (dMerge kvs more) := by
  induction y generalizing ws kvs with
  | nil => exact x
  | cons e _ ih => exact ih (x.stored _ e)
/-- d.update(o) -/
theorem OpN.update {d o : Addr} {kvs more : List (Str × PV)} (ok : C.Ok) (hd : σ d = some (.dict kvs)) (ho : σ o = some (.dict more)) (hdo : d ≠ o) (hro : d ∉ C.ro) (hsz : kvs.length + more.length ≤ 1000) (h : Q .none (σ.set d (.dict (dMerge kvs more)))) :
    OpN C (.builtin "dict.update") [.ref d, .ref o] ρ σ Q X := by
  refine ⟨fun s vs x hv => ?_⟩
  obtain ⟨v1, ws, rfl, r1, rs⟩ := hv.cons_inv
  obtain ⟨v2, ws, rfl, r2, rs⟩ := rs.cons_inv
  obtain rfl := rs.nil_inv
  cases r1; cases r2
  obtain ⟨hsm, ws, hm, dp⟩ := (x.sig _ _ hd).2
  obtain ⟨hsm2, us, hm2, dp2⟩ := (x.sig _ _ ho).2
  refine call_meetsIn F.slot_dict_update hm.typeIs F.entry_dict_update (F.args_dict_update_2 _ _) (meets_dict_update (strKind _ _) d o hdo hsm2) ⟨ws, us, hm, hm2, by rw [dp.length, dp2.length]; show _ ≤ 2 ^ 24; omega, fun h' hm' _ hs' => ?_⟩
  exact Post.dict (t := s.toks) ok x hd hro hs' hm' (fun tk => (dp.mono tk).merged (dp2.mono tk)) (fun _ => .none) h
theorem OpN.min2 {a b : Int} (ok : C.Ok) (h : Q (.int (if b < a then b else a)) σ) : OpN C (.builtin "min") [.int a, .int b] ρ σ Q X := by
  refine ⟨fun s vs x hv => ?_⟩
  obtain ⟨v1, ws, rfl, r1, rs⟩ := hv.cons_inv
  obtain ⟨v2, ws, rfl, r2, rs⟩ := rs.cons_inv
  obtain rfl := rs.nil_inv
  cases r1; cases r2
  refine min_two_ints ok.hh fun h' tk hk => ?_
  split
  · next q => rw [if_pos q] at h; exact ⟨_, σ, .int _ _, x.ext hk, Stp.ext hk, h⟩
  · next q => rw [if_neg q] at h; exact ⟨_, σ, .int _ _, x.ext hk, Stp.ext hk, h⟩
theorem intsAre_of {h : Heap} : ∀ {vs : List Value} {xs : List Int}, VRs h vs (xs.map .int) → PyProof.Rows.IntsAre vs xs
  | vs, [], r => by rw [r.nil_inv]; exact .nil
  | vs, x :: xs, r => by
    obtain ⟨v, ws, rfl, r1, rs⟩ := VRs.cons_inv r
    cases r1
    exact .cons _ _ (intsAre_of rs)
/-- sum(a list of ints) -/
theorem OpN.sum_list {l : Addr} {xs : List Int} (ok : C.Ok) (hl : σ l = some (.list (xs.map .int))) (h : Q (.int xs.sum) σ) : OpN C (.builtin "sum") [.ref l] ρ σ Q X := by
  refine ⟨fun s vs x hv => ?_⟩
  obtain ⟨v1, ws, rfl, r1, rs⟩ := hv.cons_inv
  obtain rfl := rs.nil_inv
  cases r1
  obtain ⟨us, pl, hs⟩ := (x.sig _ _ hl).2
  have hi := intsAre_of hs
  obtain ⟨zs, hz⟩ := hi.allInts.items
  have hl' : s.heap.IsList l (intItems zs) := by rw [← hz]; exact pl.isList
  refine sum_intListG ok.hh hl' fun h' tk t' hk => ?_
  have e : preSum (numAt zs) zs.size = xs.sum := by
    have h1 := hi.numsOf
    have h2 : numsOf us.toArray.toList = numsOf (intItems zs).toList := by rw [hz]
    rw [show us.toArray.toList = us from rfl, h1, nums_intItems] at h2
    rw [preSum_eq, List.take_of_length_le (by simp), h2]
  rw [e]
  exact ⟨_, σ, .int _ _, x.ext hk, Stp.ext hk, h⟩
/-- a, b = .. -/
theorem Ex.assignT {elts : List Expr} {k : _} {tp pos : Pos} {e : Expr} {Q : Fl → Loc → Sig → Prop} (ok : C.Ok) (h : Ev C e ρ σ (fun p σ₁ => ∃ ρ₁, Bind1 C (.Tuple elts k tp) p ρ ρ₁ ∧ Q .next ρ₁ σ₁) X)
    (hs : swapsWithSole [.Tuple elts k tp] e pos.line C.env = pure false := by rfl) (hw : swappedStores [.Tuple elts k tp] e C.env = pure none := by rfl) : Ex C (.Assign [.Tuple elts k tp] e pos) ρ σ Q X := by
  refine ⟨fun s x => ?_⟩
  refine PyProof.Rows.Assign_Tuple (wp_use (α := Unit) (h.run s x) (fun v s₁ p σ₁ r x₁ k₁ t₁ h₁ => ?_) x) hs hw
  obtain ⟨ρ₁, hb, hq⟩ := h₁
  exact wp_assign ok x₁ r hb fun s' x' k' => ⟨.next, ρ₁, σ₁, trivial, x', k₁.trans k', hq⟩

/-! the pairs of a dict -/
def IJ (prog : Program) (w : World) (I d : Addr) (ps : List PV) (h : Heap) : Prop :=
  ∃ i ep ok ov, ∃ ws : List (Str × Value), ∃ rest : List (Str × PV), IsItemIter h I d i ws.length ep ok ov ∧ h.DictAt (strKind prog w) d ws ep ∧ DP h (ws.drop i) rest ∧ ps = pairs .str rest
theorem AIter.items {prog : Program} {w : World} {A : Around} (hh : A.handled = none) {I d : Addr} (hne : d ≠ I) {es : List Expr} {k : _} {p : Pos} : AIter prog w A I (.Tuple es k p) [I, d] (IJ prog w I d) where
  frame := fun ps h h' ⟨i, ep, ok, ov, ws, rest, h1, h2, h3, h4⟩ kt hk => ⟨i, ep, ok, ov, ws, rest, hk I (by simp) _ h1, h2.at' fun o e => hk d (by simp) o e, h3.mono kt, h4⟩
  next := by
    rintro p ps s Q E ⟨i, ep, ok, ov, ws, rest, h1, h2, h3, h4⟩ hQ
    cases rest with
    | nil => cases h4
    | cons kv rest =>
      cases h4
      obtain ⟨kk, pv⟩ := kv
      generalize hd : ws.drop i = ds at h3
      cases h3 with
      | @cons _ v _ ws' _ e r =>
        have hx : ws[i]? = some (kk, v) := by
          have : (ws.drop i)[0]? = some (kk, v) := by rw [hd]; rfl
          simpa using this
        have hd' : ws.drop (i + 1) = ws' := by
          have : (ws.drop i).drop 1 = ws' := by rw [hd]; rfl
          simpa [List.drop_drop] using this
        refine wpAny_pyNext_items_item h1 h2 hx fun key h' hkey hout htup hsz hk => ?_
        have hIlt : I < s.heap.objs.size := Heap.lt_size h1
        have hIne : s.heap.objs.size ≠ I := Nat.ne_of_gt hIlt
        refine wpAny_letOwnedTupleGo_items hout fun h'' hit hs => ?_
        have ext : ∀ b o, b ≠ I → s.heap.get? b = some o → h''.get? b = some o := fun b o hb q => hs.extBut b o hb (hk b o hb q)
        have tk : TupKept s.heap h'' := TupKept.but (fun vs => by
          rintro ⟨o, q, hc, _⟩
          rw [h1] at q; cases q; simp at hc) ext
        refine hQ (.ref s.heap.objs.size) h'' s.toks ?_ ⟨i + 1, ep, _, _, ws, rest, hit, h2.at' fun o q => ext d o hne q, by rw [hd']; exact r.mono tk, rfl⟩ ext
        refine .tup (vs := [key, v]) ⟨_, hs.extBut _ _ hIne htup, rfl, _, rfl⟩ (.cons ?_ (.cons (e.mono tk) .nil))
        obtain ⟨t, rfl⟩ := Value.isStrOf_shape hkey
        exact .str _ _
  stop := by
    rintro s Q E ⟨i, ep, ok, ov, ws, rest, h1, h2, h3, h4⟩ hQ
    have hr : rest = [] := by
      cases rest with
      | nil => rfl
      | cons _ _ => cases h4
    subst hr
    have hd : ws.drop i = [] := by
      generalize ws.drop i = ds at h3
      cases h3; rfl
    have hx : ws[i]? = none := by simpa using List.drop_eq_nil_iff.mp hd
    exact wpAny_pyNext_items_end hh h1 h2 hx fun h' he => hQ h' s.toks fun b o hb e => he b o hb e
  self := fun ps s Q E ⟨i, ep, ok, ov, ws, rest, h1, _⟩ hQ => PySem.W.kcp_self h1 hQ
  there := by
    rintro ps h ⟨i, ep, ok, ov, ws, rest, h1, ⟨o, _, h2, _⟩, _⟩ b hb
    simp only [List.mem_cons, List.not_mem_nil, or_false] at hb
    rcases hb with rfl | rfl
    · exact ⟨_, h1⟩
    · exact ⟨o, h2⟩
  mine := by simp
  notup := by
    rintro ps h ⟨i, ep, ok, ov, ws, rest, h1, _⟩ us ⟨o, e, hc, _⟩
    rw [h1] at e; cases e; simp at hc
theorem Iterates.items {es : List Expr} {k : _} {p : Pos} {v d : Addr} {kvs : List (Str × PV)} (ok : C.Ok) (hv : σ v = some (.items d)) (hd : σ d = some (.dict kvs)) : Iterates C (.Tuple es k p) (.ref v) σ [d] (pairs .str kvs) := by
  intro ρ s u R E x hu h
  cases hu
  have hvw : s.heap.IsItemsView v d := (x.sig _ _ hv).2
  obtain ⟨hsm, ws, hm, dp⟩ := (x.sig _ _ hd).2
  obtain ⟨ep, hm'⟩ := hm.dictAt
  have hlt := hm'.lt_size
  refine wpAny_pyIter_items hvw hm' (h _ [s.heap.objs.size, d] (IJ C.S.prog C.S.w s.heap.objs.size d) _ s.toks (fun b o e => Heap.get?_push_of_some _ e) (heap_fresh _) (AIter.items ok.hh (Nat.ne_of_lt hlt))
    ⟨0, ep, .none, .none, ws, kvs, Heap.get?_push_size _ rfl, hm'.push _, dp.mono (.of_ext fun b o e => Heap.get?_push_of_some _ e), rfl⟩ ?_)
  intro b hb
  simp only [List.mem_cons, List.not_mem_nil, or_false] at hb
  rcases hb with rfl | rfl
  · exact .inl (heap_fresh _)
  · exact .inr (.inl (by simp))
end
end SR

set_option maxRecDepth 100000
set_option linter.unusedVariables false
set_option linter.unusedSectionVars false
set_option linter.unusedSimpArgs false
namespace SR
open PySem

section
variable {S : Sx} {sc : Scope} {ro : List Addr} {room : Nat} {g : Gh} {ρ : Loc} {σ : Sig} {X : String → Sig → Prop}
theorem swaps_cell {y : Str} {elt : Expr} {gs : List Comprehension} {scope : Scope} {p' pos spos : Pos} (ok : (mkC S sc ro room g).Ok) (hk : kdOf sc y = some .cell) : swapsWith (.ListComp elt gs scope pos) (some (.Name y p')) spos.line g.env = pure false := by
  have h2 : g.env.kindOf y = some .cell := ok.kinds y _ hk
  show (pure (g.env.blockKind == .function && g.env.kindOf y == some .local && p'.line == pos.line && !(scope.names.any fun x => x.1 == y && (x.2 == .local || x.2 == .cell))) : Sem Bool) = pure false
  rw [h2]
  have : ((some NameKind.cell : Option NameKind) == some .local) = false := by decide
  rw [this]
  simp
end

/-! pouring one stock into another -/
def comb (f : Option Int → Int → Int) (l Y : List (Str × Int)) : List (Str × Int) := Y.foldl (fun l y => sSet l y.1 (f (sGet l y.1) y.2)) l
def combIn (f : Option Int → Int → Int) (Y : List (Str × Int)) (x : Str × Int) : Str × Int := (x.1, match sGet Y x.1 with | some v => f (some x.2) v | none => x.2)
def newOf (l Y : List (Str × Int)) : List (Str × Int) := Y.filter fun y => decide (y.1 ∉ l.map (·.1))
theorem newOf_length (l Y : List (Str × Int)) : (newOf l Y).length ≤ Y.length := List.length_filter_le _ _
theorem comb_eq (f : Option Int → Int → Int) : ∀ (Y l : List (Str × Int)), (l.map (·.1)).Nodup → (Y.map (·.1)).Nodup →
    comb f l Y = l.map (combIn f Y) ++ (newOf l Y).map fun y => (y.1, f none y.2)
  | [], l, _, _ => by
    show l = l.map (combIn f []) ++ []
    rw [List.append_nil]
    exact ((List.map_congr_left fun x _ => rfl).trans (List.map_id l)).symm
  | y :: Y, l, hl, hY => by
    have hY' := List.nodup_cons.mp hY
    have hy : y.1 ∉ Y.map (·.1) := hY'.1
    have hyn : sGet Y y.1 = none := sGet_none hy
    show comb f (sSet l y.1 (f (sGet l y.1) y.2)) Y = _
    rw [comb_eq f Y _ (sSet_nodup hl) hY'.2]
    by_cases hin : y.1 ∈ l.map (·.1)
    · have hkeys : (sSet l y.1 (f (sGet l y.1) y.2)).map (·.1) = l.map (·.1) := by rw [sSet_keys, if_pos hin]
      have hnew : newOf (sSet l y.1 (f (sGet l y.1) y.2)) Y = newOf l (y :: Y) := by
        unfold newOf
        rw [hkeys, List.filter_cons_of_neg (by simpa using hin)]
      rw [hnew]
      congr 1
      have hany : (l.any fun x => decide (x.1 = y.1)) = true := by
        obtain ⟨x, hx, e⟩ := List.mem_map.mp hin
        exact List.any_eq_true.mpr ⟨x, hx, by simpa using e⟩
      unfold sSet
      rw [if_pos hany, List.map_map]
      refine List.map_congr_left fun x hx => ?_
      simp only [Function.comp, combIn, sGet_cons]
      by_cases e : x.1 = y.1
      · have e' : y.1 = x.1 := e.symm
        have hg : sGet l y.1 = some x.2 := by rw [e']; exact sGet_mem hl hx
        rw [if_pos e, if_pos e', hg]
        simp only
        rw [e, hyn]
      · have e' : ¬ y.1 = x.1 := fun q => e q.symm
        rw [if_neg e, if_neg e']
    · rw [sSet_new _ hin, sGet_none hin, List.map_append]
      have h1 : l.map (combIn f Y) = l.map (combIn f (y :: Y)) := List.map_congr_left fun x hx => by
        have : ¬ y.1 = x.1 := fun q => hin (List.mem_map.mpr ⟨x, hx, q.symm⟩)
        simp only [combIn, sGet_cons, if_neg this]
      have h2 : newOf (l ++ [(y.1, f none y.2)]) Y = newOf l Y := by
        unfold newOf
        refine List.filter_congr fun z hz => ?_
        have : z.1 ≠ y.1 := fun q => hy (List.mem_map.mpr ⟨z, hz, q⟩)
        simp [this]
      have h3 : newOf l (y :: Y) = y :: newOf l Y := by
        unfold newOf
        rw [List.filter_cons_of_pos (by simpa using hin)]
      rw [h1, h2, h3]
      simp [combIn, hyn]
def fRecv (o : Option Int) (v : Int) : Int := o.getD 0 + v
def fOver (_ : Option Int) (v : Int) : Int := v
theorem recvAll_comb (l Y : List (Str × Int)) : recvAll l Y = comb fRecv l Y := rfl
theorem dMerge_comb (l Y : List (Str × Int)) : dMerge (sd l) (sd Y) = sd (comb fOver l Y) := by
  unfold dMerge comb
  induction Y generalizing l with
  | nil => rfl
  | cons y Y ih =>
    show List.foldl _ (dSet (sd l) y.1 (.int y.2)) (sd Y) = _
    rw [sd_set]
    exact ih _
theorem comb_nodup (f : Option Int → Int → Int) {l : List (Str × Int)} (h : (l.map (·.1)).Nodup) (Y : List (Str × Int)) : ((comb f l Y).map (·.1)).Nodup := by
  unfold comb
  induction Y generalizing l with
  | nil => exact h
  | cons y Y ih => exact ih (sSet_nodup h)
theorem comb_length (f : Option Int → Int → Int) (l Y : List (Str × Int)) : (comb f l Y).length ≤ l.length + Y.length := by
  unfold comb
  induction Y generalizing l with
  | nil => exact Nat.le_refl _
  | cons y Y ih => exact Nat.le_trans (ih _) (by have := sSet_length_le l y.1 (f (sGet l y.1) y.2); simp only [List.length_cons]; omega)
/-- all counts at least 1 -/
def Pos1 (l : List (Str × Int)) : Prop := ∀ x ∈ l, 1 ≤ x.2
theorem sGet_some_mem {l : List (Str × Int)} {k : Str} {v : Int} (h : sGet l k = some v) : (k, v) ∈ l := by
  induction l with
  | nil => cases h
  | cons x l ih =>
    rw [sGet_cons] at h
    split at h
    · next e => cases h; rw [← e]; exact List.mem_cons_self
    · exact List.mem_cons_of_mem _ (ih h)
theorem sSet_pos {l : List (Str × Int)} {k : Str} {i : Int} (h : Pos1 l) (hi : 1 ≤ i) : Pos1 (sSet l k i) := by
  intro x hx
  unfold sSet at hx
  split at hx
  · obtain ⟨y, hy, rfl⟩ := List.mem_map.mp hx
    split
    · exact hi
    · exact h y hy
  · rcases List.mem_append.mp hx with hx | hx
    · exact h x hx
    · rw [List.mem_singleton.mp hx]; exact hi
theorem comb_pos {f : Option Int → Int → Int} (hf : ∀ o v, (∀ w, o = some w → 1 ≤ w) → 1 ≤ v → 1 ≤ f o v) {l : List (Str × Int)} (h : Pos1 l) {Y : List (Str × Int)} (hY : Pos1 Y) : Pos1 (comb f l Y) := by
  unfold comb
  induction Y generalizing l with
  | nil => exact h
  | cons y Y ih =>
    exact ih (sSet_pos h (hf _ _ (fun w e => h _ (sGet_some_mem e)) (hY y List.mem_cons_self))) fun x hx => hY x (List.mem_cons_of_mem _ hx)
theorem sRecv_pos {l : List (Str × Int)} {k : Str} {n : Int} (h : Pos1 l) (hn : 1 ≤ n) : Pos1 (sRecv l k n) := sSet_pos h (by
  cases e : sGet l k with
  | none => simpa using hn
  | some v => have := h _ (sGet_some_mem e); simp only [Option.getD_some] at this ⊢; omega)
/-- shipping -/
def sShip (l : List (Str × Int)) (k : Str) (n : Int) : List (Str × Int) := if (sGet l k).getD 0 - n = 0 then sDel l k else sSet l k ((sGet l k).getD 0 - n)
theorem ship_all {k : Str} {n v : Int} (h0 : v - n = 0) : ∀ {l : List (Str × Int)}, (∀ x ∈ l, 1 ≤ x.2 ∧ (x.1 = k → x.2 = v)) → (l.map fun x => (x.1, x.2 - if x.1 = k then n else 0)).filter (fun x => decide (x.2 > 0)) = sDel l k
  | [], _ => rfl
  | x :: l, h => by
    have ih := ship_all (k := k) (v := v) h0 (l := l) fun y hy => h y (List.mem_cons_of_mem _ hy)
    obtain ⟨h1, h2⟩ := h x List.mem_cons_self
    unfold sDel at ih ⊢
    rw [List.map_cons]
    by_cases e : x.1 = k
    · have hv := h2 e
      rw [List.filter_cons_of_neg (by simp [e]; omega), List.filter_cons_of_neg (by simp [e])]; exact ih
    · rw [List.filter_cons_of_pos (by simp [e]; omega), List.filter_cons_of_pos (by simp [e]), ih]
      simp [e]
theorem ship_some {k : Str} {n v : Int} (h0 : 0 < v - n) : ∀ {l : List (Str × Int)}, (∀ x ∈ l, 1 ≤ x.2 ∧ (x.1 = k → x.2 = v)) → (l.map fun x => (x.1, x.2 - if x.1 = k then n else 0)).filter (fun x => decide (x.2 > 0)) = l.map fun x => if x.1 = k then (x.1, v - n) else x
  | [], _ => rfl
  | x :: l, h => by
    have ih := ship_some (k := k) (v := v) h0 (l := l) fun y hy => h y (List.mem_cons_of_mem _ hy)
    obtain ⟨h1, h2⟩ := h x List.mem_cons_self
    rw [List.map_cons, List.map_cons]
    by_cases e : x.1 = k
    · have hv := h2 e
      rw [List.filter_cons_of_pos (by simp [e]; omega), ih]
      simp [e, hv]
    · rw [List.filter_cons_of_pos (by simp [e]; omega), ih]
      simp [e]
/-- the law's own shipping -/
theorem sShip_eq {l : List (Str × Int)} {k : Str} {n v : Int} (hl : (l.map (·.1)).Nodup) (hp : Pos1 l) (hv : sGet l k = some v) (h2 : n ≤ v) :
    (l.map fun x => (x.1, x.2 - if x.1 = k then n else 0)).filter (fun x => decide (x.2 > 0)) = sShip l k n := by
  have hall : ∀ x ∈ l, 1 ≤ x.2 ∧ (x.1 = k → x.2 = v) := fun x hx => ⟨hp x hx, fun e => by have := sGet_mem hl hx; rw [e, hv] at this; cases this; rfl⟩
  unfold sShip
  rw [hv, Option.getD_some]
  by_cases h0 : v - n = 0
  · rw [if_pos h0]; exact ship_all h0 hall
  · rw [if_neg h0, ship_some (by omega) hall]
    unfold sSet
    rw [if_pos]
    exact List.any_eq_true.mpr ⟨(k, v), sGet_some_mem hv, by simp⟩
theorem erase_perm {α : Type} : ∀ {l : List α} {i : Nat} (h : i < l.length), (l[i] :: l.eraseIdx i).Perm l
  | x :: l, 0, _ => by simp
  | x :: l, i + 1, h => by
    have ih := erase_perm (l := l) (i := i) (by simpa using h)
    simp only [List.getElem_cons_succ, List.eraseIdx_cons_succ]
    exact (List.Perm.swap _ _ _).trans (ih.cons x)
theorem map_erase {α β : Type} (f : α → β) : ∀ (l : List α) (i : Nat), (l.map f).eraseIdx i = (l.eraseIdx i).map f
  | [], _ => by simp
  | x :: l, 0 => by simp
  | x :: l, i + 1 => by simp [map_erase f l i]
theorem len7 {P : List Value → Prop} (h : ∀ a b c d e f g, P [a, b, c, d, e, f, g]) : ∀ vs, vs.length = 7 → P vs
  | [a, b, c, d, e, f, g], _ => h a b c d e f g
end SR

set_option maxRecDepth 100000
set_option linter.unusedVariables false
set_option linter.unusedSectionVars false
set_option linter.unusedSimpArgs false
namespace SR
open PySem

/-! dicts from ints -/
section
variable {C : Cx} {ρ : Loc} {σ : Sig} {X : String → Sig → Prop} {Q : PV → Sig → Prop}
end
end SR

set_option maxRecDepth 100000
set_option linter.unusedVariables false
set_option linter.unusedSectionVars false
set_option linter.unusedSimpArgs false
namespace SR
open PySem

/-! a heap without some objects -/
end SR

set_option maxRecDepth 100000
set_option linter.unusedVariables false
set_option linter.unusedSectionVars false
set_option linter.unusedSimpArgs false
namespace SR
open PySem

/-! d.popitem() -/
section
variable {prog : Program} {w : World} {K : Type} [DecidableEq K] {knd : KeyKind prog w K}
end

section
variable {C : Cx} {ρ : Loc} {σ : Sig} {X : String → Sig → Prop} {Q : PV → Sig → Prop}
end
end SR

set_option maxRecDepth 100000
set_option linter.unusedVariables false
set_option linter.unusedSectionVars false
set_option linter.unusedSimpArgs false
namespace SR
open PySem

section
variable {C : Cx} {ρ : Loc} {σ : Sig} {X : String → Sig → Prop} {Q : Fl → Loc → Sig → Prop}
end

section
variable {S : Sx} {σ : Sig} {Q : PV → Sig → Prop} {ro : List Addr}
end

section
variable {C : Cx} {ρ : Loc} {σ : Sig} {Q : Fl → Loc → Sig → Prop}
end
end SR

set_option maxRecDepth 100000
set_option linter.unusedVariables false
set_option linter.unusedSectionVars false
set_option linter.unusedSimpArgs false
namespace SR
open PySem

section
variable {C : Cx} {ρ : Loc} {σ : Sig} {Q : Fl → Loc → Sig → Prop}
end
end SR

set_option maxRecDepth 100000
set_option linter.unusedVariables false
set_option linter.unusedSectionVars false
set_option linter.unusedSimpArgs false
namespace SR
open PySem

section
variable {C : Cx} {ρ : Loc} {σ : Sig} {Q : Fl → Loc → Sig → Prop}
end

/-! dicts compared -/
section
variable {C : Cx} {ρ : Loc} {σ : Sig} {X : String → Sig → Prop} {Q : PV → Sig → Prop}
end

section
variable {C : Cx} {ρ : Loc} {σ : Sig} {X : String → Sig → Prop} {Q : PV → Sig → Prop}
end
end SR

set_option maxRecDepth 100000
set_option linter.unusedVariables false
set_option linter.unusedSectionVars false
set_option linter.unusedSimpArgs false
namespace SR
open PySem PyProof.Rows

/-! generator expressions that all or any runs at once -/

section
variable {C : Cx} {ρ : Loc} {σ : Sig} {X : String → Sig → Prop} {Q : PV → Sig → Prop}

end

/-! a def whose code object is known -/
/-! the law's world without the text's table -/
section
variable {prog : Program} {w : World} {s₁ : Shared} {mg mb : Str → Option Value} {c P : Addr}
end
end SR

set_option maxRecDepth 100000
set_option linter.unusedVariables false
set_option linter.unusedSectionVars false
set_option linter.unusedSimpArgs false
namespace SR
open PySem

/-! raising, and suites that return -/
section
variable {C : Cx} {ρ : Loc} {σ : Sig} {X : String → Sig → Prop} {Q : Fl → Loc → Sig → Prop}
end

/-! dict comprehensions -/
section
variable {prog : Program} {w : World} {A : Around} {R : Result → Shared → Prop} {s : Shared}
end

section
variable {S : Sx} {sc : Scope} {ro : List Addr} {room : Nat} {g : Gh} {ρ : Loc} {σ : Sig}
end

section
variable {S : Sx} {sc : Scope} {ro : List Addr} {room : Nat} {g : Gh} {ρ : Loc} {σ : Sig} {X : String → Sig → Prop}

end
end SR

set_option maxRecDepth 100000
set_option linter.unusedVariables false
set_option linter.unusedSectionVars false
set_option linter.unusedSimpArgs false
namespace SR
open PySem

section
variable {prog : Program} {w : World} {A : Around} {E : Value → Shared → Prop} {s : Shared}
end

namespace F
end F

section
variable {prog : Program} {w : World} {A : Around} {R : Result → Shared → Prop}
end

section
variable {prog : Program} {w : World} {A : Around} {E : Value → Shared → Prop} {s : Shared}
end

section
variable {C : Cx} {ρ : Loc} {σ : Sig} {X : String → Sig → Prop} {Q : PV → Sig → Prop}
end
end SR

set_option maxRecDepth 100000
set_option linter.unusedVariables false
namespace SR
open PySem
/-! what a goal is: with these a walk looks at the goal's head first -/
namespace Gd
variable {C : Cx} {ρ : Loc} {σ : Sig} {X : String → Sig → Prop}
section
variable {Q : Fl → Loc → Sig → Prop}
theorem exs {st : List Stmt} (h : Exs C st ρ σ Q X) : Exs C st ρ σ Q X := h
theorem ex {st : Stmt} (h : Ex C st ρ σ Q X) : Ex C st ρ σ Q X := h
theorem «if» {t : Expr} {a b : List Stmt} {p : Pos} (h : Ex C (.If t a b p) ρ σ Q X) : Ex C (.If t a b p) ρ σ Q X := h
theorem ret {e : Expr} {p : Pos} (h : Ex C (.Return (some e) p) ρ σ Q X) : Ex C (.Return (some e) p) ρ σ Q X := h
theorem «for» {t i : Expr} {b o : List Stmt} {p : Pos} (h : Ex C (.For t i b o p) ρ σ Q X) : Ex C (.For t i b o p) ρ σ Q X := h
theorem expr {e : Expr} {p : Pos} (h : Ex C (.Expr e p) ρ σ Q X) : Ex C (.Expr e p) ρ σ Q X := h
theorem setItem {o i v : Expr} {p q : Pos} (h : Ex C (.Assign [.Subscript o i p] v q) ρ σ Q X) : Ex C (.Assign [.Subscript o i p] v q) ρ σ Q X := h
theorem asT {es : List Expr} {k} {v : Expr} {p q : Pos} (h : Ex C (.Assign [.Tuple es k p] v q) ρ σ Q X) : Ex C (.Assign [.Tuple es k p] v q) ρ σ Q X := h
theorem asC {y : Str} {e : Expr} {gs : List Comprehension} {sc : Scope} {p q r : Pos} (h : Ex C (.Assign [.Name y p] (.ListComp e gs sc q) r) ρ σ Q X) : Ex C (.Assign [.Name y p] (.ListComp e gs sc q) r) ρ σ Q X := h
end
section
variable {Q : Bool → Sig → Prop}
theorem te {e : Expr} (h : Te C e ρ σ Q X) : Te C e ρ σ Q X := h
theorem tcmp {l : Expr} {o : List CmpOp} {r : List Expr} {p : Pos} (h : Te C (.Compare l o r p) ρ σ Q X) : Te C (.Compare l o r p) ρ σ Q X := h
theorem tnot {e : Expr} {p : Pos} (h : Te C (.UnaryOp .Not e p) ρ σ Q X) : Te C (.UnaryOp .Not e p) ρ σ Q X := h
theorem tor {e : List Expr} {p : Pos} (h : Te C (.BoolOp .Or e p) ρ σ Q X) : Te C (.BoolOp .Or e p) ρ σ Q X := h
theorem tand {e : List Expr} {p : Pos} (h : Te C (.BoolOp .And e p) ρ σ Q X) : Te C (.BoolOp .And e p) ρ σ Q X := h
theorem tes {es : List Expr} (h : Tes C es ρ σ Q) : Tes C es ρ σ Q := h
theorem opt {a : PV} (h : OpT C a ρ σ Q X) : OpT C a ρ σ Q X := h
end
section
variable {Q : List PV → Sig → Prop}
theorem evs {e : List Expr} (h : Evs C e ρ σ Q X) : Evs C e ρ σ Q X := h
end
section
variable {Q : PV → Sig → Prop}
theorem ev {e : Expr} (h : Ev C e ρ σ Q X) : Ev C e ρ σ Q X := h
theorem name {y : Str} {p : Pos} (h : Ev C (.Name y p) ρ σ Q X) : Ev C (.Name y p) ρ σ Q X := h
theorem cst {c : Const} {k : Nat} {p : Pos} (h : Ev C (.Constant c k p) ρ σ Q X) : Ev C (.Constant c k p) ρ σ Q X := h
theorem li {o : Expr} {p q r s : Pos} (h : Ev C (.Call (.Name (Str.ofString "list") p) [.Call (.Attribute o (Str.ofString "items") q) [] [] r] [] s) ρ σ Q X) : Ev C (.Call (.Name (Str.ofString "list") p) [.Call (.Attribute o (Str.ofString "items") q) [] [] r] [] s) ρ σ Q X := h
theorem call {f : Str} {as : List Expr} {p q : Pos} (h : Ev C (.Call (.Name f p) as [] q) ρ σ Q X) : Ev C (.Call (.Name f p) as [] q) ρ σ Q X := h
theorem meth {o : Expr} {m : Str} {as : List Expr} {p q : Pos} (h : Ev C (.Call (.Attribute o m p) as [] q) ρ σ Q X) : Ev C (.Call (.Attribute o m p) as [] q) ρ σ Q X := h
theorem m (m : Str) {o : Expr} {as : List Expr} {p q : Pos} (h : Ev C (.Call (.Attribute o m p) as [] q) ρ σ Q X) : Ev C (.Call (.Attribute o m p) as [] q) ρ σ Q X := h
theorem bin {l r : Expr} {o : Operator} {p : Pos} (h : Ev C (.BinOp l o r p) ρ σ Q X) : Ev C (.BinOp l o r p) ρ σ Q X := h
theorem cmp {l : Expr} {o : List CmpOp} {r : List Expr} {p : Pos} (h : Ev C (.Compare l o r p) ρ σ Q X) : Ev C (.Compare l o r p) ρ σ Q X := h
theorem un {o : UnaryOp} {e : Expr} {p : Pos} (h : Ev C (.UnaryOp o e p) ρ σ Q X) : Ev C (.UnaryOp o e p) ρ σ Q X := h
theorem tup {es : List Expr} {k} {p : Pos} (h : Ev C (.Tuple es k p) ρ σ Q X) : Ev C (.Tuple es k p) ρ σ Q X := h
theorem lst {es : List Expr} {p : Pos} (h : Ev C (.List es p) ρ σ Q X) : Ev C (.List es p) ρ σ Q X := h
theorem dct {p : Pos} (h : Ev C (.Dict [] [] p) ρ σ Q X) : Ev C (.Dict [] [] p) ρ σ Q X := h
theorem sub {v i : Expr} {p : Pos} (h : Ev C (.Subscript v i p) ρ σ Q X) : Ev C (.Subscript v i p) ρ σ Q X := h
theorem comp {e : Expr} {gs : List Comprehension} {sc : Scope} {p : Pos} (h : Ev C (.ListComp e gs sc p) ρ σ Q X) : Ev C (.ListComp e gs sc p) ρ σ Q X := h
theorem ife {t a b : Expr} {p : Pos} (h : Ev C (.IfExp t a b p) ρ σ Q X) : Ev C (.IfExp t a b p) ρ σ Q X := h
theorem opb {o : Operator} {a b : PV} (h : OpBin C o a b ρ σ Q X) : OpBin C o a b ρ σ Q X := h
theorem opc {o : CmpOp} {a b : PV} (h : OpCmp C o a b ρ σ Q X) : OpCmp C o a b ρ σ Q X := h
theorem opu {o : UnaryOp} {a : PV} (h : OpUn C o a ρ σ Q X) : OpUn C o a ρ σ Q X := h
theorem opn {f : Value} {ps : List PV} (h : OpN C f ps ρ σ Q X) : OpN C f ps ρ σ Q X := h
theorem ops {v i : Expr} {a b : PV} (h : OpS C v i a b ρ σ Q X) : OpS C v i a b ρ σ Q X := h
theorem fn {S : Sx} {fa : Addr} {ro : List Addr} {room : Nat} {ps : List PV} (h : Fn S fa ro room ps σ Q) : Fn S fa ro room ps σ Q := h
end
theorem and {a b : Prop} (h : a ∧ b) : a ∧ b := h
theorem ite {b : Bool} {p q : Prop} (h : if b = true then p else q) : if b = true then p else q := h
end Gd
end SR

set_option hygiene false in
local macro_rules | `(tactic| walk_at "sl") => `(tactic| first | (with_reducible assumption) | (with_reducible apply Sig.set_self) | (rw [Sig.set_ne _ _ (by first | assumption | exact Ne.symm (by assumption))]; walk_at "sl"))
set_option hygiene false in
local macro_rules | `(tactic| walk_at "sk") => `(tactic| (show kdOf _ _ = _; decide +kernel))
set_option hygiene false in
local macro_rules | `(tactic| walk_at "sb") => `(tactic| first | (with_reducible rfl) | decide)
set_option hygiene false in
local macro_rules | `(tactic| walk_at "gx") => `(tactic| first
  | ((fail_if_success (fail_if_success (with_reducible apply Gd.if))); refine Ex.if ?_)
  | ((fail_if_success (fail_if_success (with_reducible apply Gd.ret))); refine Ex.ret ?_)
  | ((fail_if_success (fail_if_success (with_reducible apply Gd.for))); refine Ex.forN ok ?_)
  | ((fail_if_success (fail_if_success (with_reducible apply Gd.expr))); refine Ex.expr ok ?_)
  | ((fail_if_success (fail_if_success (with_reducible apply Gd.setItem))); refine Ex.setItem ok ?_)
  | ((fail_if_success (fail_if_success (with_reducible apply Gd.asT))); refine Ex.assignT ok ?_)
  | ((fail_if_success (fail_if_success (with_reducible apply Gd.asC))); first | refine Ex.assignC ok (by walk_at "sk") hc (by decide +kernel) (by rfl) (by decide +kernel) ?_ | refine Ex.assign ok (.inl (by walk_at "sk")) ?_ | refine Ex.assign ok (.inr ⟨by walk_at "sk", hc _ (by walk_at "sk")⟩) ?_)
  | refine Ex.assign ok (.inl (by walk_at "sk")) ?_
  | refine Ex.assign ok (.inr ⟨by walk_at "sk", hc _ (by walk_at "sk")⟩) ?_
  | refine Ex.assign ok (.inr ⟨by walk_at "sk", hc _ (by walk_at "sk")⟩) ?_ (swaps_cell ok rfl))
set_option hygiene false in
local macro_rules | `(tactic| walk_at "gt") => `(tactic| first
  | ((fail_if_success (fail_if_success (with_reducible apply Gd.tcmp))); refine Te.compare ?_)
  | ((fail_if_success (fail_if_success (with_reducible apply Gd.tnot))); refine Te.not ?_)
  | ((fail_if_success (fail_if_success (with_reducible apply Gd.tor))); first | refine Te.or ?_ | refine Te.or_nil ?_)
  | ((fail_if_success (fail_if_success (with_reducible apply Gd.tand))); first | refine Te.and ?_ | refine Te.and_nil ?_)
  | refine Te.val ?_)
set_option hygiene false in
local macro_rules | `(tactic| walk_at "gm") => `(tactic| first
  | ((fail_if_success (fail_if_success (with_reducible apply Gd.m (Str.ofString "get")))); refine Ev.method ok F.plainAttrs_dict F.slot_dict_get F.type_dict_get ?_)
  | ((fail_if_success (fail_if_success (with_reducible apply Gd.m (Str.ofString "items")))); refine Ev.method ok F.plainAttrs_dict F.slot_dict_items F.type_dict_items ?_)
  | ((fail_if_success (fail_if_success (with_reducible apply Gd.m (Str.ofString "append")))); refine Ev.method ok F.plainAttrs_list F.slot_list_append F.type_list_append ?_)
  | ((fail_if_success (fail_if_success (with_reducible apply Gd.m (Str.ofString "sort")))); refine Ev.method ok F.plainAttrs_list F.slot_list_sort F.type_list_sort ?_)
  | ((fail_if_success (fail_if_success (with_reducible apply Gd.m (Str.ofString "clear")))); refine Ev.method ok F.plainAttrs_dict F.slot_dict_clear F.type_dict_clear ?_)
  | ((fail_if_success (fail_if_success (with_reducible apply Gd.m (Str.ofString "values")))); refine Ev.method ok F.plainAttrs_dict F.slot_dict_values F.type_dict_values ?_)
  | ((fail_if_success (fail_if_success (with_reducible apply Gd.m (Str.ofString "keys")))); refine Ev.method ok F.plainAttrs_dict F.slot_dict_keys F.type_dict_keys ?_)
  | ((fail_if_success (fail_if_success (with_reducible apply Gd.m (Str.ofString "copy")))); refine Ev.method ok F.plainAttrs_dict F.slot_dict_copy F.type_dict_copy ?_)
  | ((fail_if_success (fail_if_success (with_reducible apply Gd.m (Str.ofString "update")))); refine Ev.method ok F.plainAttrs_dict F.slot_dict_update F.type_dict_update ?_)
  | ((fail_if_success (fail_if_success (with_reducible apply Gd.m (Str.ofString "setdefault")))); refine Ev.method ok F.plainAttrs_dict F.slot_dict_setdefault F.type_dict_setdefault ?_)
  | ((fail_if_success (fail_if_success (with_reducible apply Gd.m (Str.ofString "pop")))); first | refine Ev.method ok F.plainAttrs_list F.slot_list_pop F.type_list_pop (Ev.name ok rfl (And.intro (IsT.list (by walk_at "sl")) ?_)) | refine Ev.method ok F.plainAttrs_dict F.slot_dict_pop F.type_dict_pop (Ev.name ok rfl (And.intro (IsT.dict (by walk_at "sl")) ?_))))
set_option hygiene false in
local macro_rules | `(tactic| walk_at "ge") => `(tactic| first
  | ((fail_if_success (fail_if_success (with_reducible apply Gd.name))); first | refine Ev.name ok rfl ?_ | refine Ev.type ok (by walk_at "sk") (Bi.g (by assumption)) (Bi.b (by assumption)) ?_ | refine Ev.global ok (by walk_at "sk") (by assumption) (by assumption) ?_)
  | ((fail_if_success (fail_if_success (with_reducible apply Gd.cst))); first | refine Ev.cint ?_ | refine Ev.cstr ?_ | refine Ev.cnone ?_ | refine Ev.cbool ?_)
  | ((fail_if_success (fail_if_success (with_reducible apply Gd.li))); first | refine Ev.listItems ok (by walk_at "sk") (by assumption) ?_)
  | ((fail_if_success (fail_if_success (with_reducible apply Gd.call))); first | refine Ev.callF ok (by assumption) (by walk_at "sk") ?_ | refine Ev.callB ok (by walk_at "sk") (Bi.g (by assumption)) (Bi.b (by assumption)) ?_ | refine Ev.callT ok (by walk_at "sk") (Bi.g (by assumption)) (Bi.b (by assumption)) ?_)
  | ((fail_if_success (fail_if_success (with_reducible apply Gd.meth))); walk_at "gm")
  | ((fail_if_success (fail_if_success (with_reducible apply Gd.bin))); refine Ev.binop ?_)
  | ((fail_if_success (fail_if_success (with_reducible apply Gd.cmp))); refine Ev.compare ?_)
  | ((fail_if_success (fail_if_success (with_reducible apply Gd.un))); refine Ev.unary ?_)
  | ((fail_if_success (fail_if_success (with_reducible apply Gd.tup))); refine Ev.tuple ?_)
  | ((fail_if_success (fail_if_success (with_reducible apply Gd.lst))); refine Ev.list ?_)
  | ((fail_if_success (fail_if_success (with_reducible apply Gd.dct))); refine Ev.dict0 ok ?_)
  | ((fail_if_success (fail_if_success (with_reducible apply Gd.sub))); first | refine Ev.sliceTo ?_ | refine Ev.sliceFrom ?_ | refine Ev.sub ?_)
  | ((fail_if_success (fail_if_success (with_reducible apply Gd.comp))); refine Ev.listComp ok hc (by decide +kernel) ?_)
  | ((fail_if_success (fail_if_success (with_reducible apply Gd.ife))); refine Ev.ifexp ?_))
set_option hygiene false in
local macro_rules | `(tactic| walk_at "gb") => `(tactic| first
  | refine Op2.add ?_
  | refine Op2.sub ?_
  | refine Op2.mul ?_ (IntMulOk.of_left (by decide))
  | refine Op2.fdiv (by decide) (PyProof.noPylong_small (by decide)) ?_
  | refine Op2.mod (by first | decide | omega) ?_)
set_option hygiene false in
local macro_rules | `(tactic| walk_at "gc") => `(tactic| first
  | refine Op2.lt ?_
  | refine Op2.lts ?_
  | refine Op2.le ?_
  | refine Op2.gt ?_
  | refine Op2.ge ?_
  | refine Op2.eqi ?_
  | refine Op2.nei ?_
  | refine Op2.eqs ?_
  | refine Op2.nes ?_
  | refine Op2.isnone ?_
  | refine Op2.isnotnone ?_
  | refine Op2.isty ?_
  | refine Op2.isnotty ?_
  | refine Op2.nenone ?_)
set_option hygiene false in
local macro_rules | `(tactic| walk_at "gn") => `(tactic| first
  | refine OpN.abs ?_
  | refine OpN.min2 ok ?_
  | refine OpN.max2 ok ?_
  | refine OpN.type_int ?_)
set_option hygiene false in
local macro_rules | `(tactic| walk_at "ga") => `(tactic| first
  | refine And.intro (show List.length _ ≤ 1000 by simp) ?_
  | refine And.intro (show IsT _ _ _ _ from IsT.list (by walk_at "sl")) ?_
  | refine And.intro (show IsT _ _ _ _ from IsT.dict (by walk_at "sl")) ?_
  | refine And.intro (show IsT _ _ _ _ from IsT.idict (by walk_at "sl")) ?_
  | refine And.intro (show PV.isRef _ = false from rfl) ?_)
set_option hygiene false in
local macro_rules | `(tactic| walk_at "sr1") => `(tactic| first
  | ((fail_if_success (fail_if_success (with_reducible apply Gd.exs))); refine Exs.cons ?_)
  | ((fail_if_success (fail_if_success (with_reducible apply Gd.ev))); walk_at "ge")
  | ((fail_if_success (fail_if_success (with_reducible apply Gd.ex))); walk_at "gx")
  | ((fail_if_success (fail_if_success (with_reducible apply Gd.te))); walk_at "gt")
  | ((fail_if_success (fail_if_success (with_reducible apply Gd.tes))); first | refine Te.compare ?_ | refine Te.not ?_ | refine Te.val ?_)
  | ((fail_if_success (fail_if_success (with_reducible apply Gd.evs))); first | refine Evs.cons ?_ | refine Evs.nil ?_)
  | ((fail_if_success (fail_if_success (with_reducible apply Gd.fn))); refine cellF (by first | decide | omega) ?_)
  | ((fail_if_success (fail_if_success (with_reducible apply Gd.opb))); walk_at "gb")
  | ((fail_if_success (fail_if_success (with_reducible apply Gd.opc))); walk_at "gc")
  | ((fail_if_success (fail_if_success (with_reducible apply Gd.opt))); refine OpT.bool ?_)
  | ((fail_if_success (fail_if_success (with_reducible apply Gd.ops))); first | refine OpS.pair0 ?_ | refine OpS.pair1 ?_)
  | ((fail_if_success (fail_if_success (with_reducible apply Gd.opn))); walk_at "gn")
  | ((fail_if_success (fail_if_success (with_reducible apply Gd.opu))); refine Op1.neg ?_)
  | ((fail_if_success (fail_if_success (with_reducible apply Gd.and))); walk_at "ga")
  | ((fail_if_success (fail_if_success (with_reducible apply Gd.ite))); first | refine ifF (by walk_at "sb") ?_ | refine ifT (by walk_at "sb") ?_))
set_option hygiene false in
local macro_rules | `(tactic| walk_at "sr") => `(tactic| repeat (walk_at "sr1"))
set_option hygiene false in
local macro_rules | `(tactic| walk_at "sq") => `(tactic| repeat (first | walk_at "sr1" | refine Exs.nil ?_))
set_option hygiene false in
local macro_rules | `(tactic| walk_at "srange") => `(tactic| refine OpN.range1 fun r hr => ⟨[], _, _, Iterates.range ok (Sig.set_self _ _ _) (by omega) (by omega) (by omega) (by omega), Sub.set hr, by simp, ?_⟩)
set_option hygiene false in
local macro_rules | `(tactic| walk_at "slsub") => `(tactic| (intro y p e; simp only [Loc.bind, List.zip, List.zipWith, Loc.nil, Loc.set] at e; (repeat (split at e; (· (rename_i hq; subst hq; first | (cases e; rfl) | contradiction)))); cases e))
set_option maxRecDepth 100000
set_option linter.unusedVariables false
namespace SR
open PySem
abbrev P05 := PySem.Challenge.pw_pd_stockroom_2_05
variable {S : Sx} {σ : Sig} {ro : List Addr}
theorem cell05 {fa sa : Addr} {ns : List Int} {k : Int} (oS : S.Ok) (hf : FnAt S (Str.ofString "_law_cell") fa (bodyOf (stAt P05 10)) (scopeOf (stAt P05 10)) [Str.ofString "script", Str.ofString "at"])
    (hs : Script S sa ns) (hn : ns.length ≤ 63) (hlen : Bi S "len" (.builtin "len")) (h0 : 0 ≤ k) : Fn S fa ro 1 [.ref sa, .int k] σ (fun p σ' => p = .int (cell ns k) ∧ σ' = σ) := by
  refine Fn.at oS hf ⟨by decide +kernel, by decide +kernel, rfl, rfl, rfl⟩ rfl fun g ok hc => ?_
  obtain ⟨vs, hL, hvs⟩ := hs
  have hl : vs.length = ns.length := by rw [hvs.length, List.length_map]
  dsimp only [stAt, PySem.Challenge.pw_pd_stockroom_2_05, List.getElem?_cons_succ, List.getElem?_cons_zero, bodyOf]
  refine Exs.cons (Ex.if (Te.compare (Ev.name ok rfl (Ev.callB ok rfl hlen.g hlen.b (Evs.cons (Ev.name ok rfl (Evs.nil (OpN.len_base hL hl (by omega) (Op2.lt (OpT.bool ?_))))))))))
  by_cases h : k < ns.length
  · have h' : k.toNat < ns.length := by omega
    rw [if_pos (by simpa using h)]
    refine Exs.cons (Ex.ret (Ev.sub (Ev.name ok rfl (Ev.name ok rfl (OpS.base hL hvs h0 (by omega) (p := .int (cell ns k)) ?_ ⟨rfl, rfl⟩)))))
    simp [cell, h']
  · have h' : ¬ k.toNat < ns.length := by omega
    rw [if_neg (by simpa using h)]
    refine Exs.nil (Exs.cons (Ex.ret (Ev.cint ⟨?_, rfl⟩)))
    simp [retv, cell, h']
theorem recv05 {fa d : Addr} {k : Str} {n : Int} {l : List (Str × Int)} (oS : S.Ok) (hf : FnAt S (Str.ofString "receive") fa (bodyOf (stAt P05 1)) (scopeOf (stAt P05 1)) [Str.ofString "stock", Str.ofString "item", Str.ofString "n"])
    (hd : σ d = some (.dict (sd l))) (hro : d ∉ ro) (hsz : l.length ≤ 900) : Fn S fa ro 1 [.ref d, .str k, .int n] σ (fun p σ' => p = .none ∧ σ' = σ.set d (.dict (sd (sRecv l k n)))) := by
  refine Fn.at oS hf ⟨by decide +kernel, by decide +kernel, rfl, rfl, rfl⟩ rfl fun g ok hc => ?_
  dsimp only [stAt, PySem.Challenge.pw_pd_stockroom_2_05, List.getElem?_cons_succ, List.getElem?_cons_zero, bodyOf]
  refine Exs.cons (Ex.setItem ok (Ev.binop (Ev.method ok F.plainAttrs_dict F.slot_dict_get F.type_dict_get (Ev.name ok rfl ⟨IsT.dict hd, Evs.cons (Ev.name ok rfl (Evs.cons (Ev.cint (Evs.nil (OpN.sget hd ?_)))))⟩))))
  refine Ev.name ok rfl (Op2.add (Ev.name ok rfl (Ev.name ok rfl ⟨d, sd l, k, rfl, rfl, hd, hro, by rw [sd_length]; omega, Exs.nil ⟨rfl, ?_⟩⟩)))
  rw [sd_set]; rfl
theorem ship05 {fa d : Addr} {k : Str} {n v : Int} {l : List (Str × Int)} (oS : S.Ok) (hf : FnAt S (Str.ofString "ship") fa (bodyOf (stAt P05 2)) (scopeOf (stAt P05 2)) [Str.ofString "stock", Str.ofString "item", Str.ofString "n"])
    (hd : σ d = some (.dict (sd l))) (hro : d ∉ ro) (hsz : l.length ≤ 900) (hv : sGet l k = some v) (hn : n ≤ v) : Fn S fa ro 1 [.ref d, .str k, .int n] σ (fun p σ' => p = .none ∧ σ' = σ.set d (.dict (sd (sShip l k n)))) := by
  have cellF : True := trivial
  refine Fn.at oS hf ⟨by decide +kernel, by decide +kernel, rfl, rfl, rfl⟩ rfl fun g ok hc => ?_
  dsimp only [stAt, PySem.Challenge.pw_pd_stockroom_2_05, List.getElem?_cons_succ, List.getElem?_cons_zero, bodyOf]
  walk_at "sr"
  refine Op2.notin_dict hd (OpT.bool ?_)
  refine ifF (by rw [sd_get, hv]; rfl) (Exs.nil ?_)
  walk_at "sr"
  refine OpS.sdict hd hv ?_
  walk_at "sr"
  refine ifF (by simp; omega) (Exs.nil ?_)
  walk_at "sr"
  refine OpS.sdict hd hv ?_
  walk_at "sr"
  refine ⟨d, sd l, k, rfl, rfl, hd, hro, by rw [sd_length]; omega, ?_⟩
  rw [sd_set]
  have hg := sGet_sSet_self l k (v - n)
  walk_at "sr"
  refine OpS.sdict (Sig.set_self _ _ _) hg ?_
  walk_at "sr"
  have hsh : sShip l k n = if v - n = 0 then sDel l k else sSet l k (v - n) := by unfold sShip; rw [hv]; rfl
  by_cases h0 : v - n = 0
  · rw [if_pos (by simpa using h0)]
    walk_at "sr"
    refine OpN.pop ok (Sig.set_self _ _ _) hro (by rw [sd_length]; exact Nat.le_trans (sSet_length_le _ _ _) (by omega)) (p := .int (v - n)) (by rw [sd_get, hg]; rfl) ⟨rfl, ?_⟩
    rw [sd_del, sDel_sSet, Sig.set_set]
    refine Exs.nil (Exs.nil ⟨rfl, ?_⟩)
    rw [hsh, if_pos h0]
  · rw [if_neg (by simpa using h0)]
    refine Exs.nil (Exs.nil ⟨rfl, ?_⟩)
    rw [hsh, if_neg h0]
theorem added05 {fa a b : Addr} {l Y : List (Str × Int)} {Q : PV → Sig → Prop} (oS : S.Ok) (hf : FnAt S (Str.ofString "added") fa (bodyOf (stAt P05 3)) (scopeOf (stAt P05 3)) [Str.ofString "a", Str.ofString "b"])
    (hro : ∀ a ∈ ro, (σ a).isSome = true) (ha : σ a = some (.dict (sd l))) (hb : σ b = some (.dict (sd Y))) (hsz : l.length ≤ 400) (hsz2 : Y.length ≤ 400)
    (h : ∀ c, σ c = none → Q (.ref c) (σ.set c (.dict (sd (recvAll l Y))))) : Fn S fa ro 1 [.ref a, .ref b] σ Q := by
  have cellF : True := trivial
  refine Fn.at oS hf ⟨by decide +kernel, by decide +kernel, rfl, rfl, rfl⟩ rfl fun g ok hc => ?_
  dsimp only [stAt, PySem.Challenge.pw_pd_stockroom_2_05, List.getElem?_cons_succ, List.getElem?_cons_zero, bodyOf]
  walk_at "sr"
  refine OpN.copy ok ha (by rw [sd_length]; omega) fun c hc' => ?_
  have hca := fresh_ne hc' ha
  have hcb := fresh_ne hc' hb
  walk_at "sr"
  refine OpN.items (kvs := sd Y) (by walk_at "sl") fun v hv => ?_
  have hbv : b ≠ v := fresh_ne hv (by walk_at "sl")
  refine ⟨[b], _, σ.set c (.dict (sd l)), Iterates.items ok (Sig.set_self _ _ _) (kvs := sd Y) (by walk_at "sl"), Sub.set hv, by simp [Sig.set_ne _ _ hcb, hb], ?_⟩
  rw [sd_pairs]
  refine ForL.inv _ _ _ (fun i ρ' σ' => ρ' = _ ∧ σ' = σ.set c (.dict (sd (recvAll l (Y.take i))))) ⟨rfl, rfl⟩ ?_ ?_
  · rintro i p ρ' σ' hp ⟨rfl, rfl⟩
    obtain ⟨y, hy, rfl⟩ := rows_get hp
    have hi := lt_of_get hy
    refine ⟨_, ⟨_, rfl, .inl rfl, .inl rfl, rfl⟩, ?_⟩
    have ok := okRo ok ([b] ++ ro)
    have hcro : c ∉ [b] ++ ro := by simp [Ne.symm hcb, not_ro hro hc']
    have hlen : (recvAll l (Y.take i)).length ≤ 900 := Nat.le_trans (by rw [recvAll_comb]; exact comb_length _ _ _) (by rw [List.length_take]; omega)
    walk_at "sr"
    refine OpN.sget (Sig.set_self _ _ _) ?_
    walk_at "sr"
    refine ⟨c, sd (recvAll l (Y.take i)), y.1, rfl, rfl, Sig.set_self _ _ _, hcro, by rw [sd_length]; omega, ?_⟩
    rw [sd_set, Sig.set_set]
    refine Exs.nil ⟨_, _, LSub.set rfl (LSub.set rfl (LSub.refl _)), Sub.refl _, rfl, ?_⟩
    rw [take_snoc hy, recvAll_snoc]; rfl
  · rintro ρ' σ' ⟨rfl, rfl⟩
    rw [rows_length, List.take_length]
    walk_at "sr"
    exact h c hc'
theorem over05 {fa a b : Addr} {l Y : List (Str × Int)} {Q : PV → Sig → Prop} (oS : S.Ok) (hf : FnAt S (Str.ofString "overlaid") fa (bodyOf (stAt P05 4)) (scopeOf (stAt P05 4)) [Str.ofString "a", Str.ofString "b"])
    (hro : ∀ a ∈ ro, (σ a).isSome = true) (ha : σ a = some (.dict (sd l))) (hb : σ b = some (.dict (sd Y))) (hsz : l.length ≤ 400) (hsz2 : Y.length ≤ 400)
    (h : ∀ c, σ c = none → Q (.ref c) (σ.set c (.dict (sd (comb fOver l Y))))) : Fn S fa ro 1 [.ref a, .ref b] σ Q := by
  have cellF : True := trivial
  refine Fn.at oS hf ⟨by decide +kernel, by decide +kernel, rfl, rfl, rfl⟩ rfl fun g ok hc => ?_
  dsimp only [stAt, PySem.Challenge.pw_pd_stockroom_2_05, List.getElem?_cons_succ, List.getElem?_cons_zero, bodyOf]
  walk_at "sr"
  refine OpN.copy ok ha (by rw [sd_length]; omega) fun c hc' => ?_
  have hca := fresh_ne hc' ha
  have hcb := fresh_ne hc' hb
  walk_at "sr"
  refine OpN.update ok (Sig.set_self _ _ _) (more := sd Y) (by walk_at "sl") (Ne.symm hcb) (not_ro hro hc') (by rw [sd_length, sd_length]; omega) ⟨rfl, ?_⟩
  rw [Sig.set_set, dMerge_comb]
  walk_at "sr"
  exact h c hc'
theorem laid05 {fa d : Addr} {kvs : List (Str × PV)} {Q : PV → Sig → Prop} (oS : S.Ok) (hf : FnAt S (Str.ofString "as_laid") fa (bodyOf (stAt P05 5)) (scopeOf (stAt P05 5)) [Str.ofString "stock"]) (hlist : Bi S "list" (.type "list"))
    (hd : σ d = some (.dict kvs)) (hsz : kvs.length ≤ 900) (h : ∀ b, σ b = none → Q (.ref b) (σ.set b (.list (pairs .str kvs)))) : Fn S fa ro 1 [.ref d] σ Q := by
  refine Fn.at oS hf ⟨by decide +kernel, by decide +kernel, rfl, rfl, rfl⟩ rfl fun g ok hc => ?_
  dsimp only [stAt, PySem.Challenge.pw_pd_stockroom_2_05, List.getElem?_cons_succ, List.getElem?_cons_zero, bodyOf]
  exact Exs.cons (Ex.ret (Ev.listItems ok rfl hlist (Ev.name ok rfl ⟨d, kvs, rfl, hd, by omega, fun b hb => h b hb⟩)))
theorem tot05 {fa d : Addr} {l : List (Str × Int)} (oS : S.Ok) (hf : FnAt S (Str.ofString "total") fa (bodyOf (stAt P05 6)) (scopeOf (stAt P05 6)) [Str.ofString "stock"]) (hsum : Bi S "sum" (.builtin "sum"))
    (hd : σ d = some (.dict (sd l))) : Fn S fa ro 1 [.ref d] σ (fun p σ' => p = .int (l.map (·.2)).sum ∧ σ' = σ) := by
  refine Fn.weaken ?_
  refine Fn.at oS hf ⟨by decide +kernel, by decide +kernel, rfl, rfl, rfl⟩ rfl fun g ok hc => ?_
  dsimp only [stAt, PySem.Challenge.pw_pd_stockroom_2_05, List.getElem?_cons_succ, List.getElem?_cons_zero, bodyOf]
  refine Exs.cons (Ex.ret (Ev.callB ok rfl hsum.g hsum.b (Evs.cons (Ev.method ok F.plainAttrs_dict F.slot_dict_values F.type_dict_values (Ev.name ok rfl ⟨IsT.dict hd, Evs.nil (OpN.values hd fun a ha => Evs.nil (OpN.sum_vals (l := l) ok (Sig.set_self _ _ _) ?_ ?_))⟩)))))
  · rw [Sig.set_ne _ _ (fresh_ne ha hd)]; exact hd
  · exact ⟨σ, Sub.set ha, rfl, rfl⟩
theorem empt05 {fa d : Addr} {kvs : List (Str × PV)} (oS : S.Ok) (hf : FnAt S (Str.ofString "emptied") fa (bodyOf (stAt P05 7)) (scopeOf (stAt P05 7)) [Str.ofString "stock"]) (hlen : Bi S "len" (.builtin "len"))
    (hd : σ d = some (.dict kvs)) (hro : d ∉ ro) (hsz : kvs.length ≤ 900) : Fn S fa ro 1 [.ref d] σ (fun p σ' => p = .int kvs.length ∧ σ' = σ.set d (.dict [])) := by
  refine Fn.at oS hf ⟨by decide +kernel, by decide +kernel, rfl, rfl, rfl⟩ rfl fun g ok hc => ?_
  dsimp only [stAt, PySem.Challenge.pw_pd_stockroom_2_05, List.getElem?_cons_succ, List.getElem?_cons_zero, bodyOf]
  refine Exs.cons (Ex.assign ok (.inl rfl) (Ev.callB ok rfl hlen.g hlen.b (Evs.cons (Ev.name ok rfl (Evs.nil (OpN.len_dict hd (by omega) ?_))))))
  refine Exs.cons (Ex.expr ok (Ev.method ok F.plainAttrs_dict F.slot_dict_clear F.type_dict_clear (Ev.name ok rfl ⟨IsT.dict hd, Evs.nil (OpN.clear ok hd hro (by omega) ⟨rfl, ?_⟩)⟩)))
  exact Exs.cons (Ex.ret (Ev.name ok rfl ⟨rfl, rfl⟩))
end SR

set_option maxRecDepth 100000
set_option linter.unusedVariables false
namespace SR
open PySem
variable {S : Sx} {σ : Sig} {ro : List Addr}

structure Drawn (xs : List Str) (P : List (Str × Int)) : Prop where
  nd : (P.map (·.1)).Nodup
  sub : ∀ k ∈ P.map (·.1), k ∈ xs
  pos : Pos1 P

set_option maxHeartbeats 1000000 in
theorem pairs05 {fa fc sa : Addr} {ns : List Int} {pool : PV} {xs : List Str} {at' size : Int} {Q : PV → Sig → Prop} (oS : S.Ok)
    (hf : FnAt S (Str.ofString "_law_pairs") fa (bodyOf (stAt P05 11)) (scopeOf (stAt P05 11)) [Str.ofString "script", Str.ofString "at", Str.ofString "pool", Str.ofString "size"])
    (hC : FnAt S (Str.ofString "_law_cell") fc (bodyOf (stAt P05 10)) (scopeOf (stAt P05 10)) [Str.ofString "script", Str.ofString "at"])
    (hs : Script S sa ns) (hn : ns.length ≤ 63) (hlen : Bi S "len" (.builtin "len")) (hrange : Bi S "range" (.type "range")) (hlist : Bi S "list" (.type "list"))
    (hpool : ∀ (C : Cx) (ρ : Loc) (Q : PV → Sig → Prop) (X : String → Sig → Prop), (∀ a, σ a = none → Q (.ref a) (σ.set a (.list (xs.map .str)))) → OpN C (.type "list") [pool] ρ σ Q X)
    (hnd : xs.Nodup) (hx : xs.length ≤ 5) (h0 : 0 ≤ size) (h1 : size ≤ xs.length) (hat : 0 ≤ at')
    (h : ∀ b P, σ b = none → Drawn xs P → P.length = size.toNat → Q (.ref b) (σ.set b (.list (rows P)))) : Fn S fa [] 2 [.ref sa, .int at', pool, .int size] σ Q := by
  refine Fn.weaken ?_
  refine Fn.at oS hf ⟨by decide +kernel, by decide +kernel, rfl, rfl, rfl⟩ rfl fun g ok hc => ?_
  have cellF : ∀ {σ : Sig} {ro : List Addr} {k : Int} {Q : PV → Sig → Prop}, 0 ≤ k → Q (.int (cell ns k)) σ → Fn S fc ro 1 [.ref sa, .int k] σ Q := fun h0 hq =>
    ((cell05 oS hC hs hn hlen h0).room (by decide)).mono fun p σ' ⟨h1, h2⟩ => by rw [h1, h2]; exact hq
  dsimp only [stAt, PySem.Challenge.pw_pd_stockroom_2_05, List.getElem?_cons_succ, List.getElem?_cons_zero, bodyOf]
  walk_at "sr"
  refine hpool _ _ _ _ fun lf hlf => ?_
  walk_at "sr"
  intro b hb
  have hlb := fresh_ne hb (Sig.set_self _ _ _)
  have hb0 : σ b = none := by rw [Sig.set_ne _ _ (Ne.symm hlb)] at hb; exact hb
  walk_at "sr"
  walk_at "srange"
  rw [Int.sub_zero]
  refine ForL.inv _ _ _ (fun i ρ' σ' => ρ' = _ ∧ ∃ (P : List (Str × Int)) (ys : List Str), (P.map (·.1) ++ ys).Perm xs ∧ Pos1 P ∧ P.length = i ∧ σ' = (σ.set lf (.list (ys.map .str))).set b (.list (rows P))) ⟨rfl, [], xs, List.Perm.refl _, fun _ h => (nomatch h), rfl, rfl⟩ ?_ ?_
  · rintro i p ρ' σ' hp ⟨rfl, P, ys, hperm, hpos, hPl, rfl⟩
    obtain ⟨hi, rfl⟩ := intsFrom_get hp
    rw [Int.zero_add]
    refine ⟨_, ⟨.inl rfl, rfl⟩, ?_⟩
    have hyl : (ys.map PV.str).length = xs.length - i := by
      have := hperm.length_eq; rw [List.length_append, List.length_map] at this; rw [List.length_map]; omega
    walk_at "sr"
    refine OpN.len_list (by walk_at "sl") (by omega) ?_
    walk_at "sr"
    have hm := mod_bounds (cell ns (at' + 2 * (i : Int))) (m := ((ys.map PV.str).length : Int)) (by omega)
    generalize hj : cell ns (at' + 2 * (i : Int)) % ((ys.map PV.str).length : Int) = j at hm ⊢
    have hjl : j.toNat < ys.length := by rw [List.length_map] at hm; omega
    refine OpN.lpop ok (by walk_at "sl") (by simp [mkC]) (by omega) hm.1 (p := .str ys[j.toNat]) (by rw [List.getElem?_map, List.getElem?_eq_getElem hjl]; rfl) ?_
    walk_at "sr"
    refine OpN.append ok (by walk_at "sl") (by simp [mkC]) (by rw [rows_length]; omega) ⟨rfl, ?_⟩
    have hmb := mod_bounds (cell ns (at' + 2 * (i : Int) + 1)) (m := 6) (by decide)
    refine Exs.nil ⟨_, _, LSub.set rfl (LSub.set rfl (LSub.refl _)), Sub.refl _, rfl, P ++ [(ys[j.toNat], 1 + cell ns (at' + 2 * (i : Int) + 1) % 6)], ys.eraseIdx j.toNat, ?_, ?_, by simp [hPl], ?_⟩
    · rw [List.map_append, List.append_assoc]
      refine List.Perm.trans (List.Perm.append_left _ ?_) hperm
      exact erase_perm hjl
    · intro x hx
      rcases List.mem_append.mp hx with hx | hx
      · exact hpos x hx
      · rw [List.mem_singleton.mp hx]; show 1 ≤ 1 + _; omega
    · rw [rows_append, map_erase]
      rw [Sig.set_comm _ _ _ (Ne.symm hlb), Sig.set_set, Sig.set_set]
      rfl
  · rintro ρ' σ' ⟨rfl, P, ys, hperm, hpos, hPl, rfl⟩
    rw [intsFrom_length] at hPl
    walk_at "sr"
    have hnd' := (hperm.nodup_iff.mpr hnd)
    refine ⟨σ.set b (.list (rows P)), Sub.set_both (Sub.set hlf), h b P hb0 ⟨(List.nodup_append.mp hnd').1, fun k hk => hperm.mem_iff.mp (List.mem_append_left _ hk), hpos⟩ hPl⟩

theorem strs_filter_notin (xs ys : List Str) (b : PV → Bool) (h : ∀ x ∈ xs, b (.str x) = decide (x ∉ ys)) : (xs.map PV.str).filter b = (xs.filter fun x => decide (x ∉ ys)).map .str := by
  rw [List.filter_map]
  congr 1
  exact List.filter_congr h

def pool05 : List Str := [Str.ofString "nut", Str.ofString "bolt", Str.ofString "washer", Str.ofString "pin", Str.ofString "gear"]
set_option maxHeartbeats 1000000 in
theorem second05 {fa fp fc sa na : Addr} {ns : List Int} {xs : List Str} {Q : PV → Sig → Prop} (oS : S.Ok)
    (hf : FnAt S (Str.ofString "_law_second") fa (bodyOf (stAt P05 12)) (scopeOf (stAt P05 12)) [Str.ofString "script", Str.ofString "names"])
    (hP : FnAt S (Str.ofString "_law_pairs") fp (bodyOf (stAt P05 11)) (scopeOf (stAt P05 11)) [Str.ofString "script", Str.ofString "at", Str.ofString "pool", Str.ofString "size"])
    (hC : FnAt S (Str.ofString "_law_cell") fc (bodyOf (stAt P05 10)) (scopeOf (stAt P05 10)) [Str.ofString "script", Str.ofString "at"])
    {nv : Value} (hN : S.mg (Str.ofString "_law_pool") = some nv) (hNv : VR S.base nv (.tup (pool05.map .str)))
    (hs : Script S sa ns) (hn : ns.length ≤ 63) (hlen : Bi S "len" (.builtin "len")) (hmin : Bi S "min" (.builtin "min")) (hrange : Bi S "range" (.type "range")) (hlist : Bi S "list" (.type "list"))
    (hna : σ na = some (.list (xs.map .str))) (hnd : xs.Nodup) (hx : xs.length ≤ 5)
    (h : ∀ b P zs, σ b = none → Drawn zs P → P.length ≤ 5 → Q (.ref b) (σ.set b (.list (rows P)))) : Fn S fa [] 3 [.ref sa, .ref na] σ Q := by
  refine Fn.weaken ?_
  refine Fn.at oS hf ⟨by decide +kernel, by decide +kernel, rfl, rfl, rfl⟩ rfl fun g ok hc => ?_
  have cellF : ∀ {σ : Sig} {ro : List Addr} {k : Int} {Q : PV → Sig → Prop}, 0 ≤ k → Q (.int (cell ns k)) σ → Fn S fc ro 2 [.ref sa, .int k] σ Q := fun h0 hq =>
    ((cell05 oS hC hs hn hlen h0).room (by decide)).mono fun p σ' ⟨h1, h2⟩ => by rw [h1, h2]; exact hq
  dsimp only [stAt, PySem.Challenge.pw_pd_stockroom_2_05, List.getElem?_cons_succ, List.getElem?_cons_zero, bodyOf]
  walk_at "sr"
  have hkd := mod_bounds (cell ns 1) (m := 4) (by decide)
  generalize cell ns 1 % 4 = kind at hkd ⊢
  by_cases hk0 : kind = 0
  · rw [if_pos (by simpa using hk0)]
    walk_at "sr"
    refine OpN.len_list hna (by rw [List.length_map]; omega) ?_
    walk_at "sr"
    refine pairs05 (xs := xs) oS hP hC hs hn hlen hrange hlist (fun C ρ Q X hq => OpN.list_list hna (by rw [List.length_map]; omega) hq) hnd hx (by omega) (by rw [List.length_map]; omega) (by decide) fun b P hb hD hl => ?_
    exact ⟨_, Sub.refl _, h b P xs hb hD (by rw [hl, List.length_map]; omega)⟩
  · rw [if_neg (by simpa using hk0)]
    refine Exs.nil ?_
    walk_at "sr"
    refine OpN.list_tuple (by decide) fun pa hpa => ?_
    have hnp := fresh_ne hpa hna
    walk_at "sr"
    by_cases hk1 : kind = 1
    · rw [if_pos (by simpa using hk1)]
      walk_at "sr"
      refine ⟨[], _, Iterates.tuple ok, by simp, by decide, fun g' ok' => ?_⟩
      refine CompL.pure (fun p => match p with | .str k => decide (k ∉ xs) | _ => false) id _ _ ?_ ?_
      · intro p hp
        obtain ⟨k, hk, rfl⟩ := List.mem_map.mp hp
        have ok := ok'
        refine ⟨_, ⟨.inl rfl, rfl⟩, LSub.set rfl (LSub.refl _), ?_, fun _ => ?_⟩
        · walk_at "sq"
          refine Op2.notin_strs (xs := xs) (by walk_at "sl") ?_
          walk_at "sq"
          exact tes_end ⟨by simp, rfl⟩
        · walk_at "sq"
          exact ⟨rfl, rfl⟩
      rw [strs_filter_notin pool05 xs _ (fun x _ => by simp), List.map_id, List.nil_append]
      generalize hps : (pool05.filter fun x => decide (x ∉ xs)) = ps
      have hpn : ps.Nodup := by rw [← hps]; exact List.filter_sublist.nodup (by decide +kernel)
      have hpl : ps.length ≤ 5 := by rw [← hps]; exact List.length_filter_le _ _
      intro pb hpb
      have hpp := fresh_ne hpb (Sig.set_self _ _ _)
      refine Exs.nil ?_
      walk_at "sr"
      refine OpN.len_list (Sig.set_self _ _ _) (by rw [List.length_map]; omega) ?_
      walk_at "sr"
      have hm0 : 0 < (if ((ps.map PV.str).length : Int) < 4 then ((ps.map PV.str).length : Int) else 4) + 1 := by split <;> omega
      have hmb := mod_bounds (cell ns 2) hm0
      generalize hsz : cell ns 2 % ((if ((ps.map PV.str).length : Int) < 4 then ((ps.map PV.str).length : Int) else 4) + 1) = size at hmb ⊢
      have hszl : size ≤ ps.length := by rw [List.length_map] at hmb; split at hmb <;> omega
      refine pairs05 (xs := ps) oS hP hC hs hn hlen hrange hlist (fun C ρ Q X hq => OpN.list_list (Sig.set_self _ _ _) (by rw [List.length_map]; omega) hq) hpn hpl hmb.1 hszl (by decide) fun b P hb hD hl => ?_
      have hbb := fresh_ne hb (Sig.set_self _ _ _)
      have hbp : pa ≠ b := fresh_ne hb (by walk_at "sl")
      have hb0 : σ b = none := by rw [Sig.set_ne _ _ (Ne.symm hbb), Sig.set_ne _ _ (Ne.symm hbp)] at hb; exact hb
      have hpb0 : σ pb = none := by rw [Sig.set_ne _ _ (Ne.symm hpp)] at hpb; exact hpb
      exact ⟨σ.set b (.list (rows P)), Sub.set_both (Sub.trans (Sub.set hpa) (Sub.set hpb)), h b P ps hb0 hD (by rw [hl]; omega)⟩
    · rw [if_neg (by simpa using hk1)]
      refine Exs.nil ?_
      walk_at "sr"
      refine OpN.len_list (Sig.set_self _ _ _) (by decide) ?_
      walk_at "sr"
      have hm0 : 0 < (if ((pool05.map PV.str).length : Int) < 4 then ((pool05.map PV.str).length : Int) else 4) + 1 := by decide
      have hmb := mod_bounds (cell ns 2) hm0
      generalize hsz : cell ns 2 % ((if ((pool05.map PV.str).length : Int) < 4 then ((pool05.map PV.str).length : Int) else 4) + 1) = size at hmb ⊢
      have h5 : (if ((pool05.map PV.str).length : Int) < 4 then ((pool05.map PV.str).length : Int) else 4) = 4 := by decide
      rw [h5] at hmb
      refine pairs05 (xs := pool05) oS hP hC hs hn hlen hrange hlist (fun C ρ Q X hq => OpN.list_list (Sig.set_self _ _ _) (by decide) hq) (by decide +kernel) (by decide) hmb.1 (by show size ≤ 5; omega) (by decide) fun b P hb hD hl => ?_
      have hbb := fresh_ne hb (Sig.set_self _ _ _)
      have hb0 : σ b = none := by rw [Sig.set_ne _ _ (Ne.symm hbb)] at hb; exact hb
      exact ⟨σ.set b (.list (rows P)), Sub.set_both (Sub.set hpa), h b P pool05 hb0 hD (by rw [hl]; omega)⟩

theorem dict05 {fa w : Addr} {P : List (Str × Int)} {Q : PV → Sig → Prop} (oS : S.Ok) (hf : FnAt S (Str.ofString "_law_dict") fa (bodyOf (stAt P05 13)) (scopeOf (stAt P05 13)) [Str.ofString "pairs"])
    (hw : σ w = some (.list (rows P))) (hnd : (P.map (·.1)).Nodup) (hsz : P.length ≤ 900) (h : ∀ d, σ d = none → Q (.ref d) (σ.set d (.dict (sd P)))) : Fn S fa [] 1 [.ref w] σ Q := by
  have cellF : True := trivial
  refine Fn.at oS hf ⟨by decide +kernel, by decide +kernel, rfl, rfl, rfl⟩ rfl fun g ok hc => ?_
  dsimp only [stAt, PySem.Challenge.pw_pd_stockroom_2_05, List.getElem?_cons_succ, List.getElem?_cons_zero, bodyOf]
  walk_at "sr"
  intro d hd
  have hdw := fresh_ne hd hw
  walk_at "sr"
  refine ⟨[w], rows P, _, Iterates.list ok (by walk_at "sl"), Sub.refl _, by simp [Sig.set_ne _ _ hdw, hw], ?_⟩
  refine ForL.inv _ _ _ (fun i ρ' σ' => ρ' = _ ∧ σ' = σ.set d (.dict (sd (P.take i)))) ⟨rfl, rfl⟩ ?_ ?_
  · rintro i p ρ' σ' hp ⟨rfl, rfl⟩
    obtain ⟨x, hx, rfl⟩ := rows_get hp
    have hi := lt_of_get hx
    refine ⟨_, ⟨_, rfl, .inl rfl, .inl rfl, rfl⟩, ?_⟩
    have ok := okRo ok ([w] ++ [])
    walk_at "sr"
    refine ⟨d, sd (P.take i), x.1, rfl, rfl, Sig.set_self _ _ _, by simpa [mkC] using Ne.symm hdw, by rw [sd_length, List.length_take]; omega, ?_⟩
    rw [sd_set, Sig.set_set]
    refine Exs.nil ⟨_, _, LSub.set rfl (LSub.set rfl (LSub.refl _)), Sub.refl _, rfl, ?_⟩
    have hnew : x.1 ∉ (P.take i).map (·.1) := by
      intro hm
      rw [List.map_take] at hm
      have h1 : (P.map (·.1))[i]? = some x.1 := by rw [List.getElem?_map, hx]; rfl
      obtain ⟨j, hj, e⟩ := List.mem_iff_getElem.mp hm
      have hji : j < i := by rw [List.length_take] at hj; omega
      rw [List.getElem_take] at e
      have hi' : i < (P.map (·.1)).length := by rw [List.length_map]; exact hi
      have e2 : (P.map (·.1))[i] = x.1 := by rw [List.getElem?_eq_getElem hi'] at h1; exact Option.some.inj h1
      have := (List.nodup_iff_pairwise_ne.mp hnd)
      rw [List.pairwise_iff_getElem] at this
      exact this j i (by omega) hi' hji (by rw [e, e2])
    rw [take_snoc hx, sSet_new _ hnew]
  · rintro ρ' σ' ⟨rfl, rfl⟩
    rw [rows_length, List.take_length]
    walk_at "sr"
    exact h d hd

theorem look05 {fa w : Addr} {k : Str} {o : Int} {P : List (Str × Int)} (oS : S.Ok) (hf : FnAt S (Str.ofString "_law_look") fa (bodyOf (stAt P05 14)) (scopeOf (stAt P05 14)) [Str.ofString "pairs", Str.ofString "name", Str.ofString "otherwise"])
    (hw : σ w = some (.list (rows P))) : Fn S fa ro 1 [.ref w, .str k, .int o] σ (fun p σ' => p = .int ((sGet P k).getD o) ∧ σ' = σ) := by
  have cellF : True := trivial
  refine Fn.at oS hf ⟨by decide +kernel, by decide +kernel, rfl, rfl, rfl⟩ rfl fun g ok hc => ?_
  dsimp only [stAt, PySem.Challenge.pw_pd_stockroom_2_05, List.getElem?_cons_succ, List.getElem?_cons_zero, bodyOf]
  walk_at "sr"
  refine ⟨[w], rows P, _, Iterates.list ok hw, Sub.refl _, by simp [hw], ?_⟩
  refine ForL.inv _ _ _ (fun i ρ' σ' => ρ' = _ ∧ σ' = σ ∧ sGet (P.take i) k = none) ⟨rfl, rfl, rfl⟩ ?_ ?_
  · rintro i p ρ' σ' hp ⟨rfl, rfl, hno⟩
    obtain ⟨x, hx, rfl⟩ := rows_get hp
    refine ⟨_, ⟨_, rfl, .inl rfl, .inl rfl, rfl⟩, ?_⟩
    have ok := okRo ok ([w] ++ ro)
    have hsplit : P = P.take (i + 1) ++ P.drop (i + 1) := (List.take_append_drop _ _).symm
    walk_at "sr"
    by_cases hx1 : x.1 = k
    · rw [if_pos (by simpa using hx1)]
      walk_at "sr"
      refine ⟨?_, rfl⟩
      rw [hsplit, take_snoc hx, sGet_append, sGet_append, hno, sGet_cons, if_pos hx1]; rfl
    · rw [if_neg (by simpa using hx1)]
      refine Exs.nil (Exs.nil ⟨_, _, LSub.set rfl (LSub.set rfl (LSub.refl _)), Sub.refl _, rfl, rfl, ?_⟩)
      rw [take_snoc hx, sGet_append, hno, sGet_cons, if_neg hx1]; rfl
  · rintro ρ' σ' ⟨rfl, rfl, hno⟩
    rw [rows_length, List.take_length] at hno
    walk_at "sr"
    exact ⟨by rw [hno]; rfl, rfl⟩
end SR

set_option maxRecDepth 100000
set_option linter.unusedVariables false
namespace SR
open PySem
variable {S : Sx} {σ : Sig} {ro : List Addr}

theorem others05 {fa xa ya : Addr} {A B : List (Str × Int)} {Q : PV → Sig → Prop} (oS : S.Ok) (hf : FnAt S (Str.ofString "_law_others") fa (bodyOf (stAt P05 15)) (scopeOf (stAt P05 15)) [Str.ofString "xs", Str.ofString "ys"])
    (hx : σ xa = some (.list (rows A))) (hy : σ ya = some (.list (rows B))) (hA : A.length ≤ 400) (hB : B.length ≤ 400)
    (h : ∀ b, σ b = none → Q (.ref b) (σ.set b (.list (rows (newOf A B))))) : Fn S fa [] 1 [.ref xa, .ref ya] σ Q := by
  have cellF : True := trivial
  refine Fn.weaken ?_
  refine Fn.at oS hf ⟨by decide +kernel, by decide +kernel, rfl, rfl, rfl⟩ rfl fun g ok hc => ?_
  dsimp only [stAt, PySem.Challenge.pw_pd_stockroom_2_05, List.getElem?_cons_succ, List.getElem?_cons_zero, bodyOf]
  walk_at "sr"
  refine ⟨[xa], rows A, Iterates.list ok hx, by simp [hx], by rw [rows_length]; omega, fun g' ok' => ?_⟩
  refine CompL.pure (fun _ => true) pv0 _ _ ?_ ?_
  · intro p hp
    obtain ⟨x, hx, rfl⟩ := List.mem_map.mp hp
    have ok := ok'
    refine ⟨_, ⟨_, rfl, .inl rfl, .inl rfl, rfl⟩, LSub.set rfl (LSub.set rfl (LSub.refl _)), ⟨rfl, rfl⟩, fun _ => ?_⟩
    walk_at "sq"
    exact ⟨rfl, rfl⟩
  rw [rows_filter_true, rows_pv0, List.nil_append]
  intro nw hnw
  have hyn := fresh_ne hnw hy
  walk_at "sr"
  refine ⟨[ya], rows B, Iterates.list ok (by walk_at "sl"), by simp [Sig.set_ne _ _ hyn, hy], by rw [rows_length]; omega, fun g' ok' => ?_⟩
  refine CompL.pure (fun p => match p with | .tup [.str k, _] => decide (k ∉ A.map (·.1)) | _ => false) id _ _ ?_ ?_
  · intro p hp
    obtain ⟨x, hx, rfl⟩ := List.mem_map.mp hp
    have ok := ok'
    refine ⟨_, ⟨_, rfl, .inl rfl, .inl rfl, rfl⟩, LSub.set rfl (LSub.set rfl (LSub.refl _)), ?_, fun _ => ?_⟩
    · walk_at "sq"
      refine Op2.notin_strs (Sig.set_self _ _ _) ?_
      walk_at "sq"
      exact tes_end ⟨by simp [row], rfl⟩
    · walk_at "sq"
      exact ⟨rfl, rfl⟩
  rw [rows_filter B _ (fun y => decide (y.1 ∉ A.map (·.1))) (fun y _ => by simp [row]), List.map_id, List.nil_append]
  intro b hb
  have hbn := fresh_ne hb (Sig.set_self _ _ _)
  have hb0 : σ b = none := by rw [Sig.set_ne _ _ (Ne.symm hbn)] at hb; exact hb
  exact ⟨σ.set b (.list (rows (newOf A B))), Sub.set_both (Sub.set hnw), h b hb0⟩

theorem poured_eq {A B : List (Str × Int)} (hA : (A.map (·.1)).Nodup) (hB : (B.map (·.1)).Nodup) : A.map (fun x => (x.1, x.2 + (sGet B x.1).getD 0)) ++ newOf A B = comb fRecv A B := by
  rw [comb_eq _ _ _ hA hB]
  congr 1
  · refine List.map_congr_left fun x _ => ?_
    unfold combIn
    cases sGet B x.1 <;> simp [fRecv]
  · refine ((List.map_congr_left fun y _ => ?_).trans (List.map_id _)).symm
    simp [fRecv]
theorem over_eq {A B : List (Str × Int)} (hA : (A.map (·.1)).Nodup) (hB : (B.map (·.1)).Nodup) : A.map (fun x => (x.1, (sGet B x.1).getD x.2)) ++ newOf A B = comb fOver A B := by
  rw [comb_eq _ _ _ hA hB]
  congr 1
  · refine List.map_congr_left fun x _ => ?_
    unfold combIn
    cases sGet B x.1 <;> simp [fOver]
  · refine ((List.map_congr_left fun y _ => ?_).trans (List.map_id _)).symm
    simp [fOver]
theorem newOf_self (A : List (Str × Int)) : newOf A A = [] := by
  unfold newOf
  rw [List.filter_eq_nil_iff]
  intro x hx
  simpa using ⟨x.2, hx⟩

theorem poured05 {fa fo fk xa ya : Addr} {A B : List (Str × Int)} {Q : PV → Sig → Prop} (oS : S.Ok) (hf : FnAt S (Str.ofString "_law_poured") fa (bodyOf (stAt P05 16)) (scopeOf (stAt P05 16)) [Str.ofString "xs", Str.ofString "ys"])
    (hO : FnAt S (Str.ofString "_law_others") fo (bodyOf (stAt P05 15)) (scopeOf (stAt P05 15)) [Str.ofString "xs", Str.ofString "ys"])
    (hK : FnAt S (Str.ofString "_law_look") fk (bodyOf (stAt P05 14)) (scopeOf (stAt P05 14)) [Str.ofString "pairs", Str.ofString "name", Str.ofString "otherwise"])
    (hx : σ xa = some (.list (rows A))) (hy : σ ya = some (.list (rows B))) (hA : A.length ≤ 400) (hB : B.length ≤ 400) (hAn : (A.map (·.1)).Nodup) (hBn : (B.map (·.1)).Nodup)
    (h : ∀ b, σ b = none → Q (.ref b) (σ.set b (.list (rows (comb fRecv A B))))) : Fn S fa [] 2 [.ref xa, .ref ya] σ Q := by
  have cellF : True := trivial
  refine Fn.weaken ?_
  refine Fn.at oS hf ⟨by decide +kernel, by decide +kernel, rfl, rfl, rfl⟩ rfl fun g ok hc => ?_
  dsimp only [stAt, PySem.Challenge.pw_pd_stockroom_2_05, List.getElem?_cons_succ, List.getElem?_cons_zero, bodyOf]
  walk_at "sr"
  refine ⟨[xa], rows A, Iterates.list ok hx, by simp [hx], by rw [rows_length]; omega, fun g' ok' => ?_⟩
  refine CompL.pure (fun _ => true) (fun p => match p with | .tup [.str k, .int n] => row (k, n + (sGet B k).getD 0) | p => p) _ _ ?_ ?_
  · intro p hp
    obtain ⟨x, hx, rfl⟩ := List.mem_map.mp hp
    have ok := ok'
    refine ⟨_, ⟨_, rfl, .inl rfl, .inl rfl, rfl⟩, LSub.set rfl (LSub.set rfl (LSub.refl _)), ⟨rfl, rfl⟩, fun _ => ?_⟩
    walk_at "sq"
    refine (look05 oS hK hy).mono ?_
    rintro _ _ ⟨rfl, rfl⟩
    walk_at "sq"
    exact ⟨rfl, rfl⟩
  rw [rows_filter_true, List.nil_append]
  have e1 : (rows A).map (fun p => match p with | .tup [.str k, .int n] => row (k, n + (sGet B k).getD 0) | p => p) = rows (A.map fun x => (x.1, x.2 + (sGet B x.1).getD 0)) := by simp [rows, row, Function.comp_def]
  rw [e1]
  intro c1 hc1
  have hxc := fresh_ne hc1 hx
  have hyc := fresh_ne hc1 hy
  walk_at "sr"
  refine others05 (A := A) (B := B) oS hO (by walk_at "sl") (by walk_at "sl") hA hB fun c2 hc2 => ?_
  have hcc := fresh_ne hc2 (Sig.set_self _ _ _)
  have hnl := newOf_length A B
  refine Op2.addl (by walk_at "sl") (Sig.set_self _ _ _) (by rw [rows_length, rows_length, List.length_map]; omega) fun c3 hc3 => ?_
  rw [← rows_append, poured_eq hAn hBn]
  have h32 := fresh_ne hc3 (Sig.set_self _ _ _)
  have h31 : c1 ≠ c3 := fresh_ne hc3 (by walk_at "sl")
  have h30 : σ c3 = none := by rw [Sig.set_ne _ _ (Ne.symm h32), Sig.set_ne _ _ (Ne.symm h31)] at hc3; exact hc3
  exact ⟨σ.set c3 (.list (rows (comb fRecv A B))), Sub.set_both (Sub.trans (Sub.set hc1) (Sub.set hc2)), h c3 h30⟩

theorem kept05 {fa fl a b xa ya : Addr} {A B : List (Str × Int)} (oS : S.Ok) (hf : FnAt S (Str.ofString "_law_kept") fa (bodyOf (stAt P05 17)) (scopeOf (stAt P05 17)) [Str.ofString "a", Str.ofString "b", Str.ofString "xs", Str.ofString "ys"])
    (hL : FnAt S (Str.ofString "as_laid") fl (bodyOf (stAt P05 5)) (scopeOf (stAt P05 5)) [Str.ofString "stock"]) (hlist : Bi S "list" (.type "list"))
    (ha : σ a = some (.dict (sd A))) (hb : σ b = some (.dict (sd B))) (hx : σ xa = some (.list (rows A))) (hy : σ ya = some (.list (rows B))) (hA : A.length ≤ 400) (hB : B.length ≤ 400) :
    Fn S fa [] 2 [.ref a, .ref b, .ref xa, .ref ya] σ (fun p σ' => p = .bool true ∧ σ' = σ) := by
  have cellF : True := trivial
  refine Fn.weaken ?_
  refine Fn.at oS hf ⟨by decide +kernel, by decide +kernel, rfl, rfl, rfl⟩ rfl fun g ok hc => ?_
  dsimp only [stAt, PySem.Challenge.pw_pd_stockroom_2_05, List.getElem?_cons_succ, List.getElem?_cons_zero, bodyOf]
  walk_at "sr"
  refine laid05 oS hL hlist ha (by rw [sd_length]; omega) fun c hc' => ?_
  rw [sd_pairs]
  have hxc := fresh_ne hc' hx
  walk_at "sr"
  refine Op2.neSame ok (EqR.lists (Sig.set_self _ _ _) (by walk_at "sl") (rows_pure A)) (by decide) rfl ?_
  walk_at "sr"
  refine Exs.nil ?_
  refine Exs.drop (σ₀ := σ) ?_ (LSub.refl _) (Sub.set hc')
  walk_at "sr"
  refine laid05 oS hL hlist hb (by rw [sd_length]; omega) fun c hc' => ?_
  rw [sd_pairs]
  have hyc := fresh_ne hc' hy
  walk_at "sr"
  refine Op2.neSame ok (EqR.lists (Sig.set_self _ _ _) (by walk_at "sl") (rows_pure B)) (by decide) rfl ?_
  walk_at "sq"
  exact ⟨σ, Sub.set hc', rfl, rfl⟩
end SR

set_option maxRecDepth 100000
set_option linter.unusedVariables false
namespace SR
open PySem
variable {S : Sx} {σ : Sig} {ro : List Addr}

/-- what the helpers' places are -/
structure Fns05 (S : Sx) (fc fr fsh fl fe flk fot fpo fke : Addr) : Prop where
  C : FnAt S (Str.ofString "_law_cell") fc (bodyOf (stAt P05 10)) (scopeOf (stAt P05 10)) [Str.ofString "script", Str.ofString "at"]
  R : FnAt S (Str.ofString "receive") fr (bodyOf (stAt P05 1)) (scopeOf (stAt P05 1)) [Str.ofString "stock", Str.ofString "item", Str.ofString "n"]
  Sh : FnAt S (Str.ofString "ship") fsh (bodyOf (stAt P05 2)) (scopeOf (stAt P05 2)) [Str.ofString "stock", Str.ofString "item", Str.ofString "n"]
  L : FnAt S (Str.ofString "as_laid") fl (bodyOf (stAt P05 5)) (scopeOf (stAt P05 5)) [Str.ofString "stock"]
  E : FnAt S (Str.ofString "emptied") fe (bodyOf (stAt P05 7)) (scopeOf (stAt P05 7)) [Str.ofString "stock"]
  K : FnAt S (Str.ofString "_law_look") flk (bodyOf (stAt P05 14)) (scopeOf (stAt P05 14)) [Str.ofString "pairs", Str.ofString "name", Str.ofString "otherwise"]
  O : FnAt S (Str.ofString "_law_others") fot (bodyOf (stAt P05 15)) (scopeOf (stAt P05 15)) [Str.ofString "xs", Str.ofString "ys"]
  P : FnAt S (Str.ofString "_law_poured") fpo (bodyOf (stAt P05 16)) (scopeOf (stAt P05 16)) [Str.ofString "xs", Str.ofString "ys"]
  Ke : FnAt S (Str.ofString "_law_kept") fke (bodyOf (stAt P05 17)) (scopeOf (stAt P05 17)) [Str.ofString "a", Str.ofString "b", Str.ofString "xs", Str.ofString "ys"]

set_option maxHeartbeats 2000000 in
theorem used05 {fa fc fr fsh fl fe flk fot fpo fke sa gd du a b xa ya : Addr} {ns : List Int} {D A B : List (Str × Int)} (oS : S.Ok)
    (hf : FnAt S (Str.ofString "_law_used") fa (bodyOf (stAt P05 18)) (scopeOf (stAt P05 18)) [Str.ofString "script", Str.ofString "got", Str.ofString "due", Str.ofString "a", Str.ofString "b", Str.ofString "xs", Str.ofString "ys"])
    (F : Fns05 S fc fr fsh fl fe flk fot fpo fke)
    {nv : Value} (hN : S.mg (Str.ofString "_law_pool") = some nv) (hNv : VR S.base nv (.tup (pool05.map .str)))
    (hs : Script S sa ns) (hn : ns.length ≤ 63) (hlen : Bi S "len" (.builtin "len")) (hlist : Bi S "list" (.type "list"))
    (hg : σ gd = some (.dict (sd D))) (hdu : σ du = some (.list (rows D))) (ha : σ a = some (.dict (sd A))) (hb : σ b = some (.dict (sd B))) (hx : σ xa = some (.list (rows A))) (hy : σ ya = some (.list (rows B)))
    (hga : a ≠ gd) (hgb : b ≠ gd) (hDn : (D.map (·.1)).Nodup) (hDp : Pos1 D) (hDl : D.length ≤ 100) (hA : A.length ≤ 100) (hB : B.length ≤ 100) :
    Fn S fa [] 3 [.ref sa, .ref gd, .ref du, .ref a, .ref b, .ref xa, .ref ya] σ (fun p σ' => p = .bool true ∧ σ' = σ.set gd (.dict [])) := by
  obtain ⟨hC, hR, hSh, hLd, hE, hK, hO, hP, hKe⟩ := F
  refine Fn.weaken ?_
  refine Fn.at oS hf ⟨by decide +kernel, by decide +kernel, rfl, rfl, rfl⟩ rfl fun g ok hc => ?_
  have cellF : ∀ {σ : Sig} {ro : List Addr} {k : Int} {Q : PV → Sig → Prop}, 0 ≤ k → Q (.int (cell ns k)) σ → Fn S fc ro 2 [.ref sa, .int k] σ Q := fun h0 hq =>
    ((cell05 oS hC hs hn hlen h0).room (by decide)).mono fun p σ' ⟨h1, h2⟩ => by rw [h1, h2]; exact hq
  have keptF : ∀ {σ : Sig} {Q : PV → Sig → Prop}, σ a = some (.dict (sd A)) → σ b = some (.dict (sd B)) → σ xa = some (.list (rows A)) → σ ya = some (.list (rows B)) → Q (.bool true) σ → Fn S fke [] 2 [.ref a, .ref b, .ref xa, .ref ya] σ Q := fun h1 h2 h3 h4 hq =>
    (kept05 oS hKe hLd hlist h1 h2 h3 h4 (by omega) (by omega)).mono fun p σ' ⟨h1, h2⟩ => by rw [h1, h2]; exact hq
  have hgx : xa ≠ gd := Ne.symm (ne_dl hg hx)
  have hgy : ya ≠ gd := Ne.symm (ne_dl hg hy)
  dsimp only [stAt, PySem.Challenge.pw_pd_stockroom_2_05, List.getElem?_cons_succ, List.getElem?_cons_zero, bodyOf]
  walk_at "sr"
  refine ⟨gd, sd D, rfl, hg, by rw [sd_length]; omega, fun c hc' => ?_⟩
  rw [sd_pairs]
  have hdc := fresh_ne hc' hdu
  walk_at "sr"
  refine Op2.neSame ok (EqR.lists (Sig.set_self _ _ _) (by walk_at "sl") (rows_pure D)) (by decide) rfl ?_
  walk_at "sr"
  refine Exs.nil (Exs.drop (σ₀ := σ) ?_ (LSub.refl _) (Sub.set hc'))
  walk_at "sr"
  have hb1 := mod_bounds (cell ns 19) (m := 5) (by decide)
  refine OpS.tab hb1.1 hb1.2 (by decide) ?_
  generalize pool05.getD (cell ns 19 % 5).toNat Str.empty = item
  have hb2 := mod_bounds (cell ns 20) (m := 6) (by decide)
  walk_at "sr"
  generalize cell ns 20 % 6 = n0 at hb2 ⊢
  intro t ht
  have hdt := fresh_ne ht hdu
  walk_at "sr"
  refine poured05 (A := D) (B := [(item, 1 + n0)]) oS hP hO hK (by walk_at "sl") (Sig.set_self _ _ _) (by omega) (by simp) hDn (by simp) fun mw hmw => ?_
  have htm := fresh_ne hmw (Sig.set_self _ _ _)
  have hmw0 : σ mw = none := by rw [Sig.set_ne _ _ (Ne.symm htm)] at hmw; exact hmw
  have hM : comb fRecv D [(item, 1 + n0)] = sRecv D item (1 + n0) := rfl
  rw [hM]
  have hMn : ((sRecv D item (1 + n0)).map (·.1)).Nodup := sRecv_nodup hDn
  have hMp : Pos1 (sRecv D item (1 + n0)) := sRecv_pos hDp (by omega)
  have hMl : (sRecv D item (1 + n0)).length ≤ 101 := Nat.le_trans (sRecv_length_le _ _ _) (by omega)
  have hM0 : 0 < (sRecv D item (1 + n0)).length := by
    have : sGet (sRecv D item (1 + n0)) item = some ((sGet D item).getD 0 + (1 + n0)) := sGet_sSet_self _ _ _
    exact List.length_pos_of_mem (sGet_some_mem this)
  refine Exs.drop (σ₀ := σ.set mw (.list (rows (sRecv D item (1 + n0))))) ?_ (LSub.refl _) (Sub.set_both (Sub.set ht))
  have hgm := fresh_ne hmw0 hg
  have ham := fresh_ne hmw0 ha
  have hbm := fresh_ne hmw0 hb
  have hxm := fresh_ne hmw0 hx
  have hym := fresh_ne hmw0 hy
  walk_at "sr"
  refine ((recv05 (l := D) oS hR (by walk_at "sl") (by simp [mkC]) (by omega)).room (show 1 ≤ 2 by decide)).mono ?_
  rintro _ _ ⟨rfl, rfl⟩
  generalize hMd : sRecv D item (1 + n0) = M at hMn hMp hMl hM0 ⊢
  walk_at "sr"
  refine Exs.nil ?_
  walk_at "sr"
  refine ⟨gd, sd M, rfl, Sig.set_self _ _ _, by rw [sd_length]; omega, fun c hc' => ?_⟩
  rw [sd_pairs]
  have hmc : mw ≠ c := fresh_ne hc' (by walk_at "sl")
  walk_at "sr"
  refine Op2.neSame ok (EqR.lists (Sig.set_self _ _ _) (by walk_at "sl") (rows_pure M)) (by decide) rfl ?_
  walk_at "sr"
  refine Exs.nil (Exs.drop (σ₀ := (σ.set mw (.list (rows M))).set gd (.dict (sd M))) ?_ (LSub.refl _) (Sub.set hc'))
  walk_at "sr"
  refine keptF (by walk_at "sl") (by walk_at "sl") (by walk_at "sl") (by walk_at "sl") ?_
  walk_at "sq"
  refine OpN.len_list (ps := rows M) (by walk_at "sl") (by rw [rows_length]; omega) ?_
  rw [rows_length]
  walk_at "sr"
  have hj := mod_bounds (cell ns 21) (m := (M.length : Int)) (by omega)
  generalize cell ns 21 % (M.length : Int) = j at hj ⊢
  have hjl : j.toNat < M.length := by omega
  obtain ⟨x, hxj⟩ : ∃ x, M[j.toNat]? = some x := ⟨_, List.getElem?_eq_getElem hjl⟩
  have hxM := List.mem_of_getElem? hxj
  refine OpS.list (p := row x) (by walk_at "sl") hj.1 (by omega) (by rw [rows, List.getElem?_map, hxj]; rfl) ?_
  refine ⟨_, ⟨_, rfl, .inr ⟨rfl, hc _ rfl⟩, .inl rfl, rfl⟩, ?_⟩
  have hx1 := hMp x hxM
  have hxg := sGet_mem hMn hxM
  walk_at "sr"
  have hk := mod_bounds (cell ns 22) (m := x.2) (by omega)
  generalize cell ns 22 % x.2 = k0 at hk ⊢
  have hM2 : ((σ.set mw (.list (rows M))).set gd (.dict (sd M))) mw = some (.list (rows M)) := by walk_at "sl"
  refine ⟨[mw], rows M, Iterates.list ok hM2, by simp [hM2], by rw [rows_length]; omega, fun g' ok' => ?_⟩
  refine CompL.pure (fun _ => true) (fun p => match p with | .tup [.str y, .int m] => row (y, m - if y = x.1 then 1 + k0 else 0) | p => p) _ _ ?_ ?_
  · intro p hp
    obtain ⟨y, hy', rfl⟩ := List.mem_map.mp hp
    have ok := ok'
    refine ⟨_, ⟨_, rfl, .inl rfl, .inl rfl, rfl⟩, LSub.set rfl (LSub.set rfl (LSub.refl _)), ⟨rfl, rfl⟩, fun _ => Ev.weaken ?_⟩
    walk_at "sq"
    intro t' ht'
    walk_at "sq"
    refine ((look05 (P := [(x.1, 1 + k0)]) oS hK (Sig.set_self _ _ _)).room (show 1 ≤ 2 by decide)).mono ?_
    rintro _ _ ⟨rfl, rfl⟩
    walk_at "sq"
    refine ⟨_, Sub.set ht', ?_, rfl⟩
    have : (sGet [(x.1, 1 + k0)] y.1).getD 0 = if y.1 = x.1 then 1 + k0 else 0 := by
      rw [sGet_cons]
      by_cases e : x.1 = y.1
      · simp [e]
      · have e' : ¬ y.1 = x.1 := fun q => e q.symm
        simp [e, e', sGet]
    rw [this]; rfl
  rw [rows_filter_true, List.nil_append]
  have e1 : (rows M).map (fun p => match p with | .tup [.str y, .int m] => row (y, m - if y = x.1 then 1 + k0 else 0) | p => p) = rows (M.map fun y => (y.1, y.2 - if y.1 = x.1 then 1 + k0 else 0)) := by simp [rows, row, Function.comp_def]
  rw [e1]
  generalize hF1 : (M.map fun y => (y.1, y.2 - if y.1 = x.1 then 1 + k0 else 0)) = F1
  have hF1l : F1.length = M.length := by rw [← hF1, List.length_map]
  intro f1 hf1
  walk_at "sr"
  refine ⟨[f1], rows F1, Iterates.list ok (Sig.set_self _ _ _), by simp [Sig.set_self], by rw [rows_length]; omega, fun g' ok' => ?_⟩
  refine CompL.pure (fun p => match p with | .tup [_, .int m] => decide (m > 0) | _ => false) id _ _ ?_ ?_
  · intro p hp
    obtain ⟨y, hy', rfl⟩ := List.mem_map.mp hp
    have ok := ok'
    refine ⟨_, ⟨.inl rfl, rfl⟩, LSub.set rfl (LSub.refl _), ?_, fun _ => ?_⟩
    · walk_at "sq"
      exact tes_end ⟨by simp [row], rfl⟩
    · walk_at "sq"
      exact ⟨rfl, rfl⟩
  rw [rows_filter F1 _ (fun y => decide (y.2 > 0)) (fun y _ => by simp [row]), List.map_id, List.nil_append, ← hF1, sShip_eq hMn hMp hxg (by omega)]
  rw [hF1]
  intro f2 hf2
  have hgf1 : gd ≠ f1 := fresh_ne hf1 (Sig.set_self _ _ _)
  have hgf2 : gd ≠ f2 := fresh_ne hf2 (by walk_at "sl")
  have hmf1 : mw ≠ f1 := fresh_ne hf1 hM2
  have haf1 : a ≠ f1 := fresh_ne hf1 (by walk_at "sl")
  have hbf1 : b ≠ f1 := fresh_ne hf1 (by walk_at "sl")
  have hxf1 : xa ≠ f1 := fresh_ne hf1 (by walk_at "sl")
  have hyf1 : ya ≠ f1 := fresh_ne hf1 (by walk_at "sl")
  have haf2 : a ≠ f2 := fresh_ne hf2 (by walk_at "sl")
  have hbf2 : b ≠ f2 := fresh_ne hf2 (by walk_at "sl")
  have hxf2 : xa ≠ f2 := fresh_ne hf2 (by walk_at "sl")
  have hyf2 : ya ≠ f2 := fresh_ne hf2 (by walk_at "sl")
  have hf20 : σ f2 = none := by
    have e1 : f1 ≠ f2 := fresh_ne hf2 (Sig.set_self _ _ _)
    have e2 : mw ≠ f2 := fresh_ne hf2 (by walk_at "sl")
    rw [Sig.set_ne _ _ (Ne.symm e1), Sig.set_ne _ _ (Ne.symm hgf2), Sig.set_ne _ _ (Ne.symm e2)] at hf2; exact hf2
  have hf10 : σ f1 = none := by
    rw [Sig.set_ne _ _ (Ne.symm hgf1), Sig.set_ne _ _ (Ne.symm hmf1)] at hf1; exact hf1
  walk_at "sr"
  refine ((ship05 (l := M) oS hSh (by walk_at "sl") (by simp [mkC]) (by omega) hxg (by omega)).room (show 1 ≤ 2 by decide)).mono ?_
  rintro _ _ ⟨rfl, rfl⟩
  have hsl : (sShip M x.1 (1 + k0)).length ≤ 101 := by
    rw [← sShip_eq hMn hMp hxg (by omega)]
    exact Nat.le_trans (List.length_filter_le _ _) (by rw [List.length_map]; omega)
  generalize sShip M x.1 (1 + k0) = Sh at hsl ⊢
  walk_at "sq"
  refine ⟨gd, sd Sh, rfl, Sig.set_self _ _ _, by rw [sd_length]; omega, fun c hc' => ?_⟩
  rw [sd_pairs]
  have hfc : f2 ≠ c := fresh_ne hc' (by walk_at "sl")
  walk_at "sr"
  refine Op2.neSame ok (EqR.lists (Sig.set_self _ _ _) (by walk_at "sl") (rows_pure Sh)) (by decide) rfl ?_
  walk_at "sr"
  refine Exs.nil (Exs.drop ?_ (LSub.refl _) (Sub.set hc'))
  walk_at "sr"
  refine keptF (by walk_at "sl") (by walk_at "sl") (by walk_at "sl") (by walk_at "sl") ?_
  walk_at "sq"
  refine ((empt05 (kvs := sd Sh) oS hE hlen (Sig.set_self _ _ _) (by simp [mkC]) (by rw [sd_length]; omega)).room (show 1 ≤ 2 by decide)).mono ?_
  rintro _ _ ⟨rfl, rfl⟩
  rw [sd_length]
  walk_at "sq"
  refine OpN.len_list (ps := rows Sh) (by walk_at "sl") (by rw [rows_length]; omega) ?_
  rw [rows_length]
  walk_at "sq"
  refine ifF (by simp) ?_
  walk_at "sq"
  refine ⟨gd, [], rfl, Sig.set_self _ _ _, by decide, fun c2 hc2 => ?_⟩
  walk_at "sq"
  intro c3 hc3
  have h23 := fresh_ne hc3 (Sig.set_self _ _ _)
  refine Op2.neSame ok (EqR.lists (n := 0) (ps := []) (by rw [Sig.set_ne _ _ h23]; exact Sig.set_self _ _ _) (Sig.set_self _ _ _) rfl) (by decide) rfl ?_
  walk_at "sr"
  refine Exs.nil (Exs.drop ?_ (LSub.refl _) (Sub.trans (Sub.set hc2) (Sub.set hc3)))
  walk_at "sr"
  refine keptF (by walk_at "sl") (by walk_at "sl") (by walk_at "sl") (by walk_at "sl") ?_
  walk_at "sq"
  refine ⟨_, ?_, rfl, rfl⟩
  rw [Sig.set_set]
  intro z o e
  by_cases hz : z = gd
  · subst hz; rw [Sig.set_self] at e ⊢; exact e
  · rw [Sig.set_ne _ _ hz] at e ⊢
    have n2 : z ≠ f2 := fun q => by rw [q, hf20] at e; cases e
    have n1 : z ≠ f1 := fun q => by rw [q, hf10] at e; cases e
    have n0 : z ≠ mw := fun q => by rw [q, hmw0] at e; cases e
    rw [Sig.set_ne _ _ n2, Sig.set_ne _ _ n1, Sig.set_ne _ _ hz, Sig.set_ne _ _ n0]; exact e
end SR

set_option maxRecDepth 100000
set_option linter.unusedVariables false
namespace SR
open PySem
variable {S : Sx} {σ : Sig} {ro : List Addr}

theorem twice_eq {A : List (Str × Int)} (hA : (A.map (·.1)).Nodup) : comb fRecv A A = A.map fun x => (x.1, x.2 + x.2) := by
  rw [← poured_eq hA hA, newOf_self, List.append_nil]
  refine List.map_congr_left fun x hx => ?_
  rw [sGet_mem hA hx]; rfl
theorem again_eq {A : List (Str × Int)} (hA : (A.map (·.1)).Nodup) : comb fOver A A = A := by
  rw [← over_eq hA hA, newOf_self, List.append_nil]
  refine (List.map_congr_left fun x hx => ?_).trans (List.map_id _)
  rw [sGet_mem hA hx]; rfl
theorem sum_comb {A B : List (Str × Int)} (hA : (A.map (·.1)).Nodup) : ((comb fRecv A B).map (·.2)).sum = ((A ++ B).map (·.2)).sum := by
  unfold comb
  induction B generalizing A with
  | nil => simp
  | cons y B ih =>
    have := ih (A := sRecv A y.1 y.2) (sRecv_nodup hA)
    refine this.trans ?_
    rw [List.map_append, List.sum_append, sum_sRecv _ _ hA]
    simp; omega

theorem Exs.gen {C : Cx} {st : List Stmt} {ρ : Loc} {σ : Sig} {Q : Fl → Loc → Sig → Prop} {X : String → Sig → Prop} {P : Sig → Prop} (hp : P σ) (h : ∀ σ₁, P σ₁ → Exs C st ρ σ₁ Q X) : Exs C st ρ σ Q X := h σ hp
theorem recv_pos_ok (o : Option Int) (v : Int) (h : ∀ w, o = some w → 1 ≤ w) (hv : 1 ≤ v) : 1 ≤ fRecv o v := by
  cases o with
  | none => simpa [fRecv] using hv
  | some w => have := h w rfl; simp only [fRecv, Option.getD_some]; omega
set_option maxHeartbeats 4000000 in
theorem law05 {fa fp fs2 fdc fad fov fto fus fc fr fsh fl fe flk fot fpo fke sa : Addr} {ns : List Int} (oS : S.Ok) (hL : FnAt S (Str.ofString "law") fa (bodyOf (stAt P05 19)) (scopeOf (stAt P05 19)) [Str.ofString "script"])
    (F : Fns05 S fc fr fsh fl fe flk fot fpo fke)
    (hP : FnAt S (Str.ofString "_law_pairs") fp (bodyOf (stAt P05 11)) (scopeOf (stAt P05 11)) [Str.ofString "script", Str.ofString "at", Str.ofString "pool", Str.ofString "size"])
    (h2 : FnAt S (Str.ofString "_law_second") fs2 (bodyOf (stAt P05 12)) (scopeOf (stAt P05 12)) [Str.ofString "script", Str.ofString "names"])
    (hDc : FnAt S (Str.ofString "_law_dict") fdc (bodyOf (stAt P05 13)) (scopeOf (stAt P05 13)) [Str.ofString "pairs"])
    (hAd : FnAt S (Str.ofString "added") fad (bodyOf (stAt P05 3)) (scopeOf (stAt P05 3)) [Str.ofString "a", Str.ofString "b"])
    (hOv : FnAt S (Str.ofString "overlaid") fov (bodyOf (stAt P05 4)) (scopeOf (stAt P05 4)) [Str.ofString "a", Str.ofString "b"])
    (hTo : FnAt S (Str.ofString "total") fto (bodyOf (stAt P05 6)) (scopeOf (stAt P05 6)) [Str.ofString "stock"])
    (hUs : FnAt S (Str.ofString "_law_used") fus (bodyOf (stAt P05 18)) (scopeOf (stAt P05 18)) [Str.ofString "script", Str.ofString "got", Str.ofString "due", Str.ofString "a", Str.ofString "b", Str.ofString "xs", Str.ofString "ys"])
    {nv : Value} (hN : S.mg (Str.ofString "_law_pool") = some nv) (hNv : VR S.base nv (.tup (pool05.map .str)))
    (hs : Script S sa ns) (hn : ns.length ≤ 63) (hlen : Bi S "len" (.builtin "len")) (hmin : Bi S "min" (.builtin "min")) (hsum : Bi S "sum" (.builtin "sum")) (hisi : Bi S "isinstance" (.builtin "isinstance")) (hrange : Bi S "range" (.type "range")) (hlist : Bi S "list" (.type "list")) (hdict : Bi S "dict" (.type "dict")) :
    Fn S fa [] 5 [.ref sa] (fun _ => none) (fun p _ => p = .bool true) := by
  have F' := F
  obtain ⟨hC, hR, hSh, hLd, hE, hK, hO, hPo, hKe⟩ := F'
  refine Fn.at oS hL ⟨by decide +kernel, by decide +kernel, rfl, rfl, rfl⟩ rfl fun g ok hc => ?_
  have cellF : ∀ {σ : Sig} {ro : List Addr} {k : Int} {Q : PV → Sig → Prop}, 0 ≤ k → Q (.int (cell ns k)) σ → Fn S fc ro 4 [.ref sa, .int k] σ Q := fun h0 hq =>
    ((cell05 oS hC hs hn hlen h0).room (by decide)).mono fun p σ' ⟨h1, h2⟩ => by rw [h1, h2]; exact hq
  dsimp only [stAt, PySem.Challenge.pw_pd_stockroom_2_05, List.getElem?_cons_succ, List.getElem?_cons_zero, bodyOf]
  walk_at "sr"
  have hb1 := mod_bounds (cell ns 0) (m := 5) (by decide)
  generalize cell ns 0 % 5 = size at hb1 ⊢
  refine (pairs05 (xs := pool05) oS hP hC hs hn hlen hrange hlist (fun C ρ Q X hq => OpN.list_tuple (by decide) hq) (by decide +kernel) (by decide) hb1.1 (by show size ≤ 5; omega) (by decide) fun xa A hxa hDA hAl => ?_).room (show 2 ≤ 4 by decide)
  have hAl' : A.length ≤ 4 := by omega
  walk_at "sr"
  refine ⟨[xa], rows A, Iterates.list ok (Sig.set_self _ _ _), by simp [Sig.set_self], by rw [rows_length]; omega, fun g' ok' => ?_⟩
  refine CompL.pure (fun _ => true) pv0 _ _ ?_ ?_
  · intro p hp
    obtain ⟨x, hx, rfl⟩ := List.mem_map.mp hp
    have ok := ok'
    refine ⟨_, ⟨_, rfl, .inl rfl, .inl rfl, rfl⟩, LSub.set rfl (LSub.set rfl (LSub.refl _)), ⟨rfl, rfl⟩, fun _ => ?_⟩
    walk_at "sq"
    exact ⟨rfl, rfl⟩
  rw [rows_filter_true, rows_pv0, List.nil_append]
  intro nm hnm
  have hxn := fresh_ne hnm (Sig.set_self _ _ _)
  walk_at "sr"
  refine (second05 oS h2 hP hC hN hNv hs hn hlen hmin hrange hlist (Sig.set_self _ _ _) hDA.nd (by rw [List.length_map]; omega) fun ya B zs hya hDB hBl => ?_).room (show 3 ≤ 4 by decide)
  have hxy : xa ≠ ya := fresh_ne hya (by walk_at "sl")
  refine Exs.gen (P := fun σ₁ => σ₁ xa = some (.list (rows A)) ∧ σ₁ ya = some (.list (rows B))) ⟨by walk_at "sl", by walk_at "sl"⟩ ?_
  rintro σ₁ ⟨hX, hY⟩
  walk_at "sr"
  refine (dict05 oS hDc hX hDA.nd (by omega) fun a ha => ?_).room (show 1 ≤ 4 by decide)
  have hXa := fresh_ne ha hX
  have hYa := fresh_ne ha hY
  walk_at "sr"
  refine (dict05 oS hDc (P := B) (by walk_at "sl") hDB.nd (by omega) fun b hb => ?_).room (show 1 ≤ 4 by decide)
  have hab := fresh_ne hb (Sig.set_self _ _ _)
  have hXb : xa ≠ b := fresh_ne hb (by walk_at "sl")
  have hYb : ya ≠ b := fresh_ne hb (by walk_at "sl")
  refine Exs.gen (P := fun σ₂ => σ₂ xa = some (.list (rows A)) ∧ σ₂ ya = some (.list (rows B)) ∧ σ₂ a = some (.dict (sd A)) ∧ σ₂ b = some (.dict (sd B))) ⟨by walk_at "sl", by walk_at "sl", by walk_at "sl", by walk_at "sl"⟩ ?_
  rintro σ₂ ⟨hX, hY, hAd', hBd'⟩
  clear ha hb hya hnm hxa
  walk_at "sr"
  refine (added05 (l := A) (Y := B) oS hAd (by simp [mkC]) hAd' hBd' (by omega) (by omega) fun p1 hp1 => ?_).room (show 1 ≤ 4 by decide)
  have e1 := fresh_ne hp1 hX
  have e2 := fresh_ne hp1 hY
  have e3 := fresh_ne hp1 hAd'
  have e4 := fresh_ne hp1 hBd'
  rw [recvAll_comb]
  walk_at "sr"
  refine (over05 (l := A) (Y := B) oS hOv (by simp [mkC]) (by walk_at "sl") (by walk_at "sl") (by omega) (by omega) fun p2 hp2 => ?_).room (show 1 ≤ 4 by decide)
  have f1 : xa ≠ p2 := fresh_ne hp2 (by walk_at "sl")
  have f2 : ya ≠ p2 := fresh_ne hp2 (by walk_at "sl")
  have f3 : a ≠ p2 := fresh_ne hp2 (by walk_at "sl")
  have f4 : b ≠ p2 := fresh_ne hp2 (by walk_at "sl")
  have f5 : p1 ≠ p2 := fresh_ne hp2 (Sig.set_self _ _ _)
  walk_at "sr"
  refine (added05 (l := A) (Y := A) oS hAd (by simp [mkC]) (by walk_at "sl") (by walk_at "sl") (by omega) (by omega) fun p3 hp3 => ?_).room (show 1 ≤ 4 by decide)
  have g1 : xa ≠ p3 := fresh_ne hp3 (by walk_at "sl")
  have g2 : ya ≠ p3 := fresh_ne hp3 (by walk_at "sl")
  have g3 : a ≠ p3 := fresh_ne hp3 (by walk_at "sl")
  have g4 : b ≠ p3 := fresh_ne hp3 (by walk_at "sl")
  have g5 : p1 ≠ p3 := fresh_ne hp3 (by walk_at "sl")
  have g6 : p2 ≠ p3 := fresh_ne hp3 (Sig.set_self _ _ _)
  rw [recvAll_comb]
  walk_at "sr"
  refine (over05 (l := A) (Y := A) oS hOv (by simp [mkC]) (by walk_at "sl") (by walk_at "sl") (by omega) (by omega) fun p4 hp4 => ?_).room (show 1 ≤ 4 by decide)
  have i1 : xa ≠ p4 := fresh_ne hp4 (by walk_at "sl")
  have i2 : ya ≠ p4 := fresh_ne hp4 (by walk_at "sl")
  have i3 : a ≠ p4 := fresh_ne hp4 (by walk_at "sl")
  have i4 : b ≠ p4 := fresh_ne hp4 (by walk_at "sl")
  have i5 : p1 ≠ p4 := fresh_ne hp4 (by walk_at "sl")
  have i6 : p2 ≠ p4 := fresh_ne hp4 (by walk_at "sl")
  have i7 : p3 ≠ p4 := fresh_ne hp4 (Sig.set_self _ _ _)
  rw [twice_eq hDA.nd, again_eq hDA.nd]
  refine Exs.gen (P := fun σ₂ => σ₂ xa = some (.list (rows A)) ∧ σ₂ ya = some (.list (rows B)) ∧ σ₂ a = some (.dict (sd A)) ∧ σ₂ b = some (.dict (sd B)) ∧ σ₂ p1 = some (.dict (sd (comb fRecv A B))) ∧ σ₂ p2 = some (.dict (sd (comb fOver A B))) ∧ σ₂ p3 = some (.dict (sd (A.map fun x => (x.1, x.2 + x.2)))) ∧ σ₂ p4 = some (.dict (sd A)))
    ⟨by walk_at "sl", by walk_at "sl", by walk_at "sl", by walk_at "sl", by walk_at "sl", by walk_at "sl", by walk_at "sl", by walk_at "sl"⟩ ?_
  rintro σ₃ ⟨hX, hY, hAd', hBd', h1, h2', h3, h4⟩
  clear hp1 hp2 hp3 hp4
  walk_at "sr"
  refine ⟨[], _, _, Iterates.tuple ok, Sub.refl _, by simp, ?_⟩
  refine ForL.inv _ _ _ (fun i ρ' σ' => ρ' = _ ∧ σ' = σ₃) ⟨rfl, rfl⟩ ?_ ?_
  · rintro i p ρ' σ' hp ⟨rfl, rfl⟩
    have hpd : ∃ q kvs, p = .ref q ∧ σ' q = some (.dict kvs) := by
      have hm := List.mem_of_getElem? hp
      simp only [List.mem_cons, List.not_mem_nil, or_false] at hm
      rcases hm with rfl | rfl | rfl | rfl
      · exact ⟨_, _, rfl, h1⟩
      · exact ⟨_, _, rfl, h2'⟩
      · exact ⟨_, _, rfl, h3⟩
      · exact ⟨_, _, rfl, h4⟩
    obtain ⟨q, kvs, rfl, hq⟩ := hpd
    refine ⟨_, ⟨.inl rfl, rfl⟩, ?_⟩
    walk_at "sr"
    refine OpN.isinst_dict hq ?_
    walk_at "sq"
    exact ⟨_, _, LSub.set rfl (LSub.refl _), Sub.refl _, rfl, rfl⟩
  rintro ρ' σ' ⟨rfl, rfl⟩
  have keptF : ∀ {σ : Sig} {Q : PV → Sig → Prop}, σ a = some (.dict (sd A)) → σ b = some (.dict (sd B)) → σ xa = some (.list (rows A)) → σ ya = some (.list (rows B)) → Q (.bool true) σ → Fn S fke [] 4 [.ref a, .ref b, .ref xa, .ref ya] σ Q := fun h1 h2 h3 h4 hq =>
    ((kept05 oS hKe hLd hlist h1 h2 h3 h4 (by omega) (by omega)).room (by decide)).mono fun p σ' ⟨h1, h2⟩ => by rw [h1, h2]; exact hq
  have usedF : ∀ {σ : Sig} {gd du : Addr} {D : List (Str × Int)} {Q : PV → Sig → Prop}, σ a = some (.dict (sd A)) → σ b = some (.dict (sd B)) → σ xa = some (.list (rows A)) → σ ya = some (.list (rows B)) → σ gd = some (.dict (sd D)) → σ du = some (.list (rows D)) → a ≠ gd → b ≠ gd → (D.map (·.1)).Nodup → Pos1 D → D.length ≤ 100 → Q (.bool true) (σ.set gd (.dict [])) →
      Fn S fus [] 4 [.ref sa, .ref gd, .ref du, .ref a, .ref b, .ref xa, .ref ya] σ Q := fun h1 h2 h3 h4 h5 h6 h7 h8 h9 h10 h11 hq =>
    ((used05 oS hUs F hN hNv hs hn hlen hlist h5 h6 h1 h2 h3 h4 h7 h8 h9 h10 h11 (by omega) (by omega)).room (by decide)).mono fun p σ' ⟨h1, h2⟩ => by rw [h1, h2]; exact hq
  have hc1n := comb_nodup fRecv hDA.nd B
  have hc2n := comb_nodup fOver hDA.nd B
  have hc1l := comb_length fRecv A B
  have hc2l := comb_length fOver A B
  have hc1p : Pos1 (comb fRecv A B) := comb_pos recv_pos_ok hDA.pos hDB.pos
  have hc2p : Pos1 (comb fOver A B) := comb_pos (fun o v _ hv => hv) hDA.pos hDB.pos
  walk_at "sr"
  refine keptF hAd' hBd' hX hY ?_
  walk_at "sq"
  refine ((tot05 oS hTo hsum h1).room (show 1 ≤ 4 by decide)).mono ?_
  rintro _ τ ⟨rfl, hτ⟩
  rw [hτ]
  clear hτ τ
  walk_at "sr"
  refine Op2.addl hX hY (by rw [rows_length, rows_length]; omega) fun xy hxy' => ?_
  rw [← rows_append]
  refine ⟨[xy], rows (A ++ B), Iterates.list ok (Sig.set_self _ _ _), by simp [Sig.set_self], by rw [rows_length, List.length_append]; omega, fun g' ok' => ?_⟩
  refine CompL.pure (fun _ => true) pv1 _ _ ?_ ?_
  · intro p hp
    obtain ⟨x, hx, rfl⟩ := List.mem_map.mp hp
    have ok := ok'
    refine ⟨_, ⟨_, rfl, .inl rfl, .inl rfl, rfl⟩, LSub.set rfl (LSub.set rfl (LSub.refl _)), ⟨rfl, rfl⟩, fun _ => ?_⟩
    walk_at "sq"
    exact ⟨rfl, rfl⟩
  rw [rows_filter_true, rows_pv1, List.nil_append]
  intro sl hsl
  walk_at "sr"
  refine OpN.sum_list ok (Sig.set_self _ _ _) ?_
  walk_at "sr"
  refine ifF (by simp only [sum_comb hDA.nd]; simp) ?_
  refine Exs.nil (Exs.drop (σ₀ := σ') ?_ (LSub.refl _) (Sub.trans (Sub.set hxy') (Sub.set hsl)))
  walk_at "sr"
  refine ⟨[xa], rows A, Iterates.list ok hX, by simp [hX], by rw [rows_length]; omega, fun g' ok' => ?_⟩
  refine CompL.pure (fun _ => true) (fun p => match p with | .tup [.str k, .int n] => row (k, (sGet B k).getD n) | p => p) _ _ ?_ ?_
  · intro p hp
    obtain ⟨x, hx, rfl⟩ := List.mem_map.mp hp
    have ok := ok'
    refine ⟨_, ⟨_, rfl, .inl rfl, .inl rfl, rfl⟩, LSub.set rfl (LSub.set rfl (LSub.refl _)), ⟨rfl, rfl⟩, fun _ => ?_⟩
    walk_at "sq"
    refine ((look05 oS hK hY).room (show 1 ≤ 4 by decide)).mono ?_
    rintro _ _ ⟨rfl, rfl⟩
    walk_at "sq"
    exact ⟨rfl, rfl⟩
  rw [rows_filter_true, List.nil_append]
  have e1c : (rows A).map (fun p => match p with | .tup [.str k, .int n] => row (k, (sGet B k).getD n) | p => p) = rows (A.map fun x => (x.1, (sGet B x.1).getD x.2)) := by simp [rows, row, Function.comp_def]
  rw [e1c]
  intro c1 hc1
  have hxc := fresh_ne hc1 hX
  have hyc := fresh_ne hc1 hY
  walk_at "sr"
  refine (others05 (A := A) (B := B) oS hO (by walk_at "sl") (by walk_at "sl") (by omega) (by omega) fun c2 hc2 => ?_).room (show 1 ≤ 4 by decide)
  have hcc := fresh_ne hc2 (Sig.set_self _ _ _)
  have hnl := newOf_length A B
  refine Op2.addl (by walk_at "sl") (Sig.set_self _ _ _) (by rw [rows_length, rows_length, List.length_map]; omega) fun du hdu => ?_
  rw [← rows_append, over_eq hDA.nd hDB.nd]
  have h32 := fresh_ne hdu (Sig.set_self _ _ _)
  have h31 : c1 ≠ du := fresh_ne hdu (by walk_at "sl")
  have h30 : σ' du = none := by rw [Sig.set_ne _ _ (Ne.symm h32), Sig.set_ne _ _ (Ne.symm h31)] at hdu; exact hdu
  refine Exs.drop (σ₀ := σ'.set du (.list (rows (comb fOver A B)))) ?_ (LSub.refl _) (Sub.set_both (Sub.trans (Sub.set hc1) (Sub.set hc2)))
  have j1 := fresh_ne h30 hX
  have j2 := fresh_ne h30 hY
  have j3 := fresh_ne h30 hAd'
  have j4 := fresh_ne h30 hBd'
  have j5 := fresh_ne h30 h1
  have j6 := fresh_ne h30 h2'
  have j7 := fresh_ne h30 h3
  have j8 := fresh_ne h30 h4
  walk_at "sr"
  refine (poured05 (A := A) (B := B) oS hPo hO hK (by walk_at "sl") (by walk_at "sl") (by omega) (by omega) hDA.nd hDB.nd fun pw hpw => ?_).room (show 2 ≤ 4 by decide)
  have k1 : xa ≠ pw := fresh_ne hpw (by walk_at "sl")
  have k2 : ya ≠ pw := fresh_ne hpw (by walk_at "sl")
  have k3 : a ≠ pw := fresh_ne hpw (by walk_at "sl")
  have k4 : b ≠ pw := fresh_ne hpw (by walk_at "sl")
  have k5 : p1 ≠ pw := fresh_ne hpw (by walk_at "sl")
  have k6 : p2 ≠ pw := fresh_ne hpw (by walk_at "sl")
  have k7 : p3 ≠ pw := fresh_ne hpw (by walk_at "sl")
  have k8 : p4 ≠ pw := fresh_ne hpw (by walk_at "sl")
  have k9 : du ≠ pw := fresh_ne hpw (Sig.set_self _ _ _)
  walk_at "sr"
  refine usedF (D := comb fRecv A B) (by walk_at "sl") (by walk_at "sl") (by walk_at "sl") (by walk_at "sl") (by walk_at "sl") (Sig.set_self _ _ _) e3 e4 hc1n hc1p (by omega) ?_
  have m1 : xa ≠ p1 := e1
  have m2 : ya ≠ p1 := e2
  have m3 : du ≠ p1 := Ne.symm j5
  walk_at "sr"
  refine Exs.nil ?_
  refine Exs.gen (P := fun σ₂ => σ₂ xa = some (.list (rows A)) ∧ σ₂ ya = some (.list (rows B)) ∧ σ₂ a = some (.dict (sd A)) ∧ σ₂ b = some (.dict (sd B)) ∧ σ₂ p2 = some (.dict (sd (comb fOver A B))) ∧ σ₂ p3 = some (.dict (sd (A.map fun x => (x.1, x.2 + x.2)))) ∧ σ₂ p4 = some (.dict (sd A)) ∧ σ₂ du = some (.list (rows (comb fOver A B))))
    ⟨by walk_at "sl", by walk_at "sl", by walk_at "sl", by walk_at "sl", by walk_at "sl", by walk_at "sl", by walk_at "sl", by walk_at "sl"⟩ ?_
  clear hX hY hAd' hBd' h2' h3 h4
  rintro σ₄ ⟨hX, hY, hAd', hBd', h2', h3, h4, hDu⟩
  walk_at "sr"
  refine usedF hAd' hBd' hX hY h2' hDu f3 f4 hc2n hc2p (by omega) ?_
  walk_at "sr"
  refine Exs.nil ?_
  refine Exs.gen (P := fun σ₂ => σ₂ xa = some (.list (rows A)) ∧ σ₂ ya = some (.list (rows B)) ∧ σ₂ a = some (.dict (sd A)) ∧ σ₂ b = some (.dict (sd B)) ∧ σ₂ p3 = some (.dict (sd (A.map fun x => (x.1, x.2 + x.2)))) ∧ σ₂ p4 = some (.dict (sd A)))
    ⟨by walk_at "sl", by walk_at "sl", by walk_at "sl", by walk_at "sl", by walk_at "sl", by walk_at "sl"⟩ ?_
  clear hX hY hAd' hBd' h3 h4
  rintro σ₅ ⟨hX, hY, hAd', hBd', h3, h4⟩
  walk_at "sr"
  refine ⟨[xa], rows A, Iterates.list ok hX, by simp [hX], by rw [rows_length]; omega, fun g' ok' => ?_⟩
  refine CompL.pure (fun _ => true) (fun p => match p with | .tup [.str k, .int n] => row (k, n + n) | p => p) _ _ ?_ ?_
  · intro p hp
    obtain ⟨x, hx, rfl⟩ := List.mem_map.mp hp
    have ok := ok'
    refine ⟨_, ⟨_, rfl, .inl rfl, .inl rfl, rfl⟩, LSub.set rfl (LSub.set rfl (LSub.refl _)), ⟨rfl, rfl⟩, fun _ => ?_⟩
    walk_at "sq"
    exact ⟨rfl, rfl⟩
  rw [rows_filter_true, List.nil_append]
  have e1' : (rows A).map (fun p => match p with | .tup [.str k, .int n] => row (k, n + n) | p => p) = rows (A.map fun x => (x.1, x.2 + x.2)) := by simp [rows, row, Function.comp_def]
  rw [e1']
  intro tw htw
  have n1 := fresh_ne htw hX
  have n2 := fresh_ne htw hY
  have n3 := fresh_ne htw hAd'
  have n4 := fresh_ne htw hBd'
  have n5 := fresh_ne htw h3
  have n6 := fresh_ne htw h4
  have hd2n : ((A.map fun x => (x.1, x.2 + x.2)).map (·.1)).Nodup := by rw [List.map_map]; exact hDA.nd
  have hd2p : Pos1 (A.map fun x => (x.1, x.2 + x.2)) := fun y hy => by
    obtain ⟨x, hx, rfl⟩ := List.mem_map.mp hy
    have := hDA.pos x hx
    show 1 ≤ x.2 + x.2; omega
  walk_at "sr"
  refine usedF (D := A.map fun x => (x.1, x.2 + x.2)) (by walk_at "sl") (by walk_at "sl") (by walk_at "sl") (by walk_at "sl") (by walk_at "sl") (Sig.set_self _ _ _) g3 g4 hd2n hd2p (by rw [List.length_map]; omega) ?_
  walk_at "sr"
  refine Exs.nil ?_
  walk_at "sr"
  refine usedF (D := A) (by walk_at "sl") (by walk_at "sl") (by walk_at "sl") (by walk_at "sl") (by walk_at "sl") (by walk_at "sl") i3 i4 hDA.nd hDA.pos (by omega) ?_
  walk_at "sq"
  rfl
end SR

open PySem PySem.W PyProof.Rows
set_option Elab.async false
set_option maxRecDepth 100000 in
set_option maxHeartbeats 8000000 in
theorem PySem.Challenge.cw_pd_stockroom_2_05_holds : PySem.Challenge.rw_pd_stockroom_2_05.Holds := by
  w_on; o_law; k_head; (case hw => w_witness2)
  k_fill
  intro w s₀ s₁ mg mb G Y fa o pm cd doc dV kV ho hd hcd hD hmg hg args vals as hpre hlay hrd hwl hlo
  have KX := kIn_of Y
  refine Ground.open G ?_
  intro T B D TE TW
  clear hd hcd hD
  wrow_args hpre hlay hrd hwl hlo
  rename PySem.Heap.IsList _ _ _ => hL
  rename PyProof.Rows.IntsAre _ _ => hI
  rename ¬ _ => hlen
  have hG := SR.mg_at T.g (KX 3 _ rfl) rfl
  have oS : (SR.lawS rw_pd_stockroom_2_05.row.prog w s₁ mg mb).Ok := SR.lawS_ok T.g T.b T.nolimit
  have hfa := SR.fa_of ((hG _).symm.trans hmg)
  subst hfa
  clear hmg
  have fL : SR.FnAt (SR.lawS rw_pd_stockroom_2_05.row.prog w s₁ mg mb) (Str.ofString "law") _ (SR.bodyOf (SR.stAt SR.P05 19)) (SR.scopeOf (SR.stAt SR.P05 19)) [Str.ofString "script"] :=
    ⟨_, ⟨(hG _).trans rfl, ⟨_, KX _ _ rfl, rfl⟩, codeRec_of KX rfl⟩, rfl, rfl, rfl, rfl, rfl, SR.len1 fun _ => rfl⟩
  have fC : SR.FnAt (SR.lawS rw_pd_stockroom_2_05.row.prog w s₁ mg mb) (Str.ofString "_law_cell") _ (SR.bodyOf (SR.stAt SR.P05 10)) (SR.scopeOf (SR.stAt SR.P05 10)) [Str.ofString "script", Str.ofString "at"] :=
    ⟨_, ⟨(hG _).trans rfl, ⟨_, KX _ _ rfl, rfl⟩, codeRec_of KX rfl⟩, rfl, rfl, rfl, rfl, rfl, SR.len2 fun _ _ => rfl⟩
  have fR : SR.FnAt (SR.lawS rw_pd_stockroom_2_05.row.prog w s₁ mg mb) (Str.ofString "receive") _ (SR.bodyOf (SR.stAt SR.P05 1)) (SR.scopeOf (SR.stAt SR.P05 1)) [Str.ofString "stock", Str.ofString "item", Str.ofString "n"] :=
    ⟨_, ⟨(hG _).trans rfl, ⟨_, KX _ _ rfl, rfl⟩, codeRec_of KX rfl⟩, rfl, rfl, rfl, rfl, rfl, SR.len3 fun _ _ _ => rfl⟩
  have fSh : SR.FnAt (SR.lawS rw_pd_stockroom_2_05.row.prog w s₁ mg mb) (Str.ofString "ship") _ (SR.bodyOf (SR.stAt SR.P05 2)) (SR.scopeOf (SR.stAt SR.P05 2)) [Str.ofString "stock", Str.ofString "item", Str.ofString "n"] :=
    ⟨_, ⟨(hG _).trans rfl, ⟨_, KX _ _ rfl, rfl⟩, codeRec_of KX rfl⟩, rfl, rfl, rfl, rfl, rfl, SR.len3 fun _ _ _ => rfl⟩
  have fAd : SR.FnAt (SR.lawS rw_pd_stockroom_2_05.row.prog w s₁ mg mb) (Str.ofString "added") _ (SR.bodyOf (SR.stAt SR.P05 3)) (SR.scopeOf (SR.stAt SR.P05 3)) [Str.ofString "a", Str.ofString "b"] :=
    ⟨_, ⟨(hG _).trans rfl, ⟨_, KX _ _ rfl, rfl⟩, codeRec_of KX rfl⟩, rfl, rfl, rfl, rfl, rfl, SR.len2 fun _ _ => rfl⟩
  have fOv : SR.FnAt (SR.lawS rw_pd_stockroom_2_05.row.prog w s₁ mg mb) (Str.ofString "overlaid") _ (SR.bodyOf (SR.stAt SR.P05 4)) (SR.scopeOf (SR.stAt SR.P05 4)) [Str.ofString "a", Str.ofString "b"] :=
    ⟨_, ⟨(hG _).trans rfl, ⟨_, KX _ _ rfl, rfl⟩, codeRec_of KX rfl⟩, rfl, rfl, rfl, rfl, rfl, SR.len2 fun _ _ => rfl⟩
  have fA : SR.FnAt (SR.lawS rw_pd_stockroom_2_05.row.prog w s₁ mg mb) (Str.ofString "as_laid") _ (SR.bodyOf (SR.stAt SR.P05 5)) (SR.scopeOf (SR.stAt SR.P05 5)) [Str.ofString "stock"] :=
    ⟨_, ⟨(hG _).trans rfl, ⟨_, KX _ _ rfl, rfl⟩, codeRec_of KX rfl⟩, rfl, rfl, rfl, rfl, rfl, SR.len1 fun _ => rfl⟩
  have fT : SR.FnAt (SR.lawS rw_pd_stockroom_2_05.row.prog w s₁ mg mb) (Str.ofString "total") _ (SR.bodyOf (SR.stAt SR.P05 6)) (SR.scopeOf (SR.stAt SR.P05 6)) [Str.ofString "stock"] :=
    ⟨_, ⟨(hG _).trans rfl, ⟨_, KX _ _ rfl, rfl⟩, codeRec_of KX rfl⟩, rfl, rfl, rfl, rfl, rfl, SR.len1 fun _ => rfl⟩
  have fE : SR.FnAt (SR.lawS rw_pd_stockroom_2_05.row.prog w s₁ mg mb) (Str.ofString "emptied") _ (SR.bodyOf (SR.stAt SR.P05 7)) (SR.scopeOf (SR.stAt SR.P05 7)) [Str.ofString "stock"] :=
    ⟨_, ⟨(hG _).trans rfl, ⟨_, KX _ _ rfl, rfl⟩, codeRec_of KX rfl⟩, rfl, rfl, rfl, rfl, rfl, SR.len1 fun _ => rfl⟩
  have fP : SR.FnAt (SR.lawS rw_pd_stockroom_2_05.row.prog w s₁ mg mb) (Str.ofString "_law_pairs") _ (SR.bodyOf (SR.stAt SR.P05 11)) (SR.scopeOf (SR.stAt SR.P05 11)) [Str.ofString "script", Str.ofString "at", Str.ofString "pool", Str.ofString "size"] :=
    ⟨_, ⟨(hG _).trans rfl, ⟨_, KX _ _ rfl, rfl⟩, codeRec_of KX rfl⟩, rfl, rfl, rfl, rfl, rfl, SR.len4 fun _ _ _ _ => rfl⟩
  have f2 : SR.FnAt (SR.lawS rw_pd_stockroom_2_05.row.prog w s₁ mg mb) (Str.ofString "_law_second") _ (SR.bodyOf (SR.stAt SR.P05 12)) (SR.scopeOf (SR.stAt SR.P05 12)) [Str.ofString "script", Str.ofString "names"] :=
    ⟨_, ⟨(hG _).trans rfl, ⟨_, KX _ _ rfl, rfl⟩, codeRec_of KX rfl⟩, rfl, rfl, rfl, rfl, rfl, SR.len2 fun _ _ => rfl⟩
  have fDc : SR.FnAt (SR.lawS rw_pd_stockroom_2_05.row.prog w s₁ mg mb) (Str.ofString "_law_dict") _ (SR.bodyOf (SR.stAt SR.P05 13)) (SR.scopeOf (SR.stAt SR.P05 13)) [Str.ofString "pairs"] :=
    ⟨_, ⟨(hG _).trans rfl, ⟨_, KX _ _ rfl, rfl⟩, codeRec_of KX rfl⟩, rfl, rfl, rfl, rfl, rfl, SR.len1 fun _ => rfl⟩
  have fK : SR.FnAt (SR.lawS rw_pd_stockroom_2_05.row.prog w s₁ mg mb) (Str.ofString "_law_look") _ (SR.bodyOf (SR.stAt SR.P05 14)) (SR.scopeOf (SR.stAt SR.P05 14)) [Str.ofString "pairs", Str.ofString "name", Str.ofString "otherwise"] :=
    ⟨_, ⟨(hG _).trans rfl, ⟨_, KX _ _ rfl, rfl⟩, codeRec_of KX rfl⟩, rfl, rfl, rfl, rfl, rfl, SR.len3 fun _ _ _ => rfl⟩
  have fO : SR.FnAt (SR.lawS rw_pd_stockroom_2_05.row.prog w s₁ mg mb) (Str.ofString "_law_others") _ (SR.bodyOf (SR.stAt SR.P05 15)) (SR.scopeOf (SR.stAt SR.P05 15)) [Str.ofString "xs", Str.ofString "ys"] :=
    ⟨_, ⟨(hG _).trans rfl, ⟨_, KX _ _ rfl, rfl⟩, codeRec_of KX rfl⟩, rfl, rfl, rfl, rfl, rfl, SR.len2 fun _ _ => rfl⟩
  have fPo : SR.FnAt (SR.lawS rw_pd_stockroom_2_05.row.prog w s₁ mg mb) (Str.ofString "_law_poured") _ (SR.bodyOf (SR.stAt SR.P05 16)) (SR.scopeOf (SR.stAt SR.P05 16)) [Str.ofString "xs", Str.ofString "ys"] :=
    ⟨_, ⟨(hG _).trans rfl, ⟨_, KX _ _ rfl, rfl⟩, codeRec_of KX rfl⟩, rfl, rfl, rfl, rfl, rfl, SR.len2 fun _ _ => rfl⟩
  have fKe : SR.FnAt (SR.lawS rw_pd_stockroom_2_05.row.prog w s₁ mg mb) (Str.ofString "_law_kept") _ (SR.bodyOf (SR.stAt SR.P05 17)) (SR.scopeOf (SR.stAt SR.P05 17)) [Str.ofString "a", Str.ofString "b", Str.ofString "xs", Str.ofString "ys"] :=
    ⟨_, ⟨(hG _).trans rfl, ⟨_, KX _ _ rfl, rfl⟩, codeRec_of KX rfl⟩, rfl, rfl, rfl, rfl, rfl, SR.len4 fun _ _ _ _ => rfl⟩
  have fU : SR.FnAt (SR.lawS rw_pd_stockroom_2_05.row.prog w s₁ mg mb) (Str.ofString "_law_used") _ (SR.bodyOf (SR.stAt SR.P05 18)) (SR.scopeOf (SR.stAt SR.P05 18)) [Str.ofString "script", Str.ofString "got", Str.ofString "due", Str.ofString "a", Str.ofString "b", Str.ofString "xs", Str.ofString "ys"] :=
    ⟨_, ⟨(hG _).trans rfl, ⟨_, KX _ _ rfl, rfl⟩, codeRec_of KX rfl⟩, rfl, rfl, rfl, rfl, rfl, SR.len7 fun _ _ _ _ _ _ _ => rfl⟩
  have bi : ∀ (x : String) (v : Value), mg (Str.ofString x) = none → bootBuiltins (Str.ofString x) = some v → Str.ofString x ≠ "__name__" → SR.Bi (SR.lawS rw_pd_stockroom_2_05.row.prog w s₁ mg mb) x v := fun x v h1 h2 h3 =>
    ⟨h1, (T.builtins _ h3).trans h2⟩
  have b_len := bi "len" (.builtin "len") ((hG _).trans rfl) (by decide +kernel) (by decide +kernel)
  have b_min := bi "min" (.builtin "min") ((hG _).trans rfl) (by decide +kernel) (by decide +kernel)
  have b_sum := bi "sum" (.builtin "sum") ((hG _).trans rfl) (by decide +kernel) (by decide +kernel)
  have b_isinstance := bi "isinstance" (.builtin "isinstance") ((hG _).trans rfl) (by decide +kernel) (by decide +kernel)
  have b_range := bi "range" (.type "range") ((hG _).trans rfl) (by decide +kernel) (by decide +kernel)
  have b_list := bi "list" (.type "list") ((hG _).trans rfl) (by decide +kernel) (by decide +kernel)
  have b_dict := bi "dict" (.type "dict") ((hG _).trans rfl) (by decide +kernel) (by decide +kernel)
  refine SR.law_end hg (fun _ => rfl) (postW_of rfl (w_eq_bool (w_res rfl) w_lit) rfl) ((SR.law05 oS fL ⟨fC, fR, fSh, fA, fE, fK, fO, fPo, fKe⟩ fP f2 fDc fAd fOv fT fU ((hG _).trans rfl) ?_ ⟨_, hL, SR.vrs_of_ints hI⟩ ?_ b_len b_min b_sum b_isinstance b_range b_list b_dict).room (by decide))
  · exact .tup (vs := [_, _, _, _, _]) ⟨_, KX _ _ rfl, rfl, _, rfl⟩ (.cons (.str _ _) (.cons (.str _ _) (.cons (.str _ _) (.cons (.str _ _) (.cons (.str _ _) .nil)))))
  · omega
