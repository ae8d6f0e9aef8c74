import PyProof.Rows.All
import Wide.All
import OpenK.AllK
import Wide.FinOn
import PyProof.EqAt
import PyProof.EqKinds
import PyProof.TupleCall
import HandS.Base
import HandS.Call
import HandS.List
import HandS.Comp
import HandS.Ends
import HandS.Dict
import HandS.Iter
import HandS.Text
import HandS.Exc
import HandS.ExcOwn
import HandS.Flow
import HandS.Walk
import HandS.ExcValue
import HandS.ExcInit
import HandS.TupAny
import HandS.TupMul
import HandS.WideMore
import HandS.Deep
import HandS.TupLe
import HandS.IsInst
import HandS.WordsDict
import HandS.SortInts
import HandS.StrSplit
import HandS.TryOnly
import HandS.Style
import HandS.WordsExc
import HandS.Words
import HandS.Lambda
import HandS.Defaults
import HandS.Small
import HandS.ExcField
import KE.KExcIs
import PyProof.ReprRoads
import HandS.HeadHook2
import HandS.Head0
import HandS.Head1
import HandS.Head2
import HandS.Wide
import KE.KStateDown
import Lean
import PyProof.ReprLen
import PySem.Challenge.RW_timesindoubt_k00_errors
set_option Elab.async false
set_option linter.all false
set_option maxRecDepth 100000
set_option autoImplicit false
set_option maxHeartbeats 4000000
/-! VI: functional readings over plain data. -/
namespace VI
open PySem PySem.Spec PyProof.Rows L2

/-- data as values: tuples and lists that are never changed, mutable cells by number, defs and classes by name -/
inductive D where
  | non | bl (b : Bool) | int (i : Int) | str (x : Str)
  | tup (xs : List D) | lst (xs : List D)
  | dct (ks : List Key) (vs : List D)
  | loc (n : Nat) | gl (x : Str) | fz (xs : List D) | kt (xs : List D)
  deriving Inhabited

inductive Cell where
  | lst (xs : List D) | dK (kvs : List (Key × D)) | dT (kvs : List (List Key × D)) | ins (c : Str) (fs : List (Str × D)) | xo (c : Str) (fs : List (Str × D)) | tmp
  deriving Inhabited
abbrev Mem := List Cell
abbrev Env := List (Option D)

/-- an exception: its class's name, its fields -/
structure Ex where
  c : Str
  fs : List (Str × D)

inductive Res (α : Type) where
  | ok (a : α) (st : Mem) | exc (e : Ex) (st : Mem) | bad
def Res.bind {α β : Type} : Res α → (α → Mem → Res β) → Res β
  | .ok a st, k => k a st
  | .exc e st, _ => .exc e st
  | .bad, _ => .bad
@[simp] theorem Res.ok_bind {α β : Type} (a : α) (st : Mem) (k : α → Mem → Res β) : (Res.ok a st).bind k = k a st := rfl
@[simp] theorem Res.exc_bind {α β : Type} (e : Ex) (st : Mem) (k : α → Mem → Res β) : (Res.exc e st : Res α).bind k = .exc e st := rfl
@[simp] theorem Res.bad_bind {α β : Type} (k : α → Mem → Res β) : (Res.bad : Res α).bind k = .bad := rfl

/-! ### how data lies in the heap -/
structure Gm where
  K : PySem.W.Frag
  mg : Str → Option Value
abbrev gm (X : Cx) : Gm := ⟨X.K, X.mg⟩

def FzT (mp : List Addr) (H : Hp) (a : Addr) (xs : List V) : Prop := H a = some (.tup xs) ∧ a ∉ mp
def FzK (K : PySem.W.Frag) (mp : List Addr) (H : Hp) (a : Addr) (xs : List V) : Prop :=
  (Rd H a (.tup xs) ∧ a ∉ mp) ∨
    ∃ (o : Obj) (its : Array Value) (n : Nat), K.lookup a = some o ∧ o.cls = .type "tuple" ∧ o.data = .seq its n ∧ its.size ≤ sizeLine ∧ Vals xs its.toList
def FzL (mp : List Addr) (H : Hp) (a : Addr) (xs : List V) : Prop := H a = some (.lst xs) ∧ a ∉ mp
def FzR (K : PySem.W.Frag) (mp : List Addr) (H : Hp) (a : Addr) (xs : List V) : Prop :=
  (Rd H a (.lst xs) ∧ a ∉ mp) ∨
    ∃ (o : Obj) (its : Array Value) (n : Nat), K.lookup a = some o ∧ o.cls = .type "list" ∧ o.dict = none ∧ o.data = .seq its n ∧ its.size ≤ sizeLine ∧ Vals xs its.toList
theorem FzT.sq {K : PySem.W.Frag} {mp : List Addr} {H : Hp} {a : Addr} {xs : List V} (h : FzT mp H a xs) : SqT K H a xs := .inl (.inl h.1)
theorem FzK.sq {K : PySem.W.Frag} {mp : List Addr} {H : Hp} {a : Addr} {xs : List V} (h : FzK K mp H a xs) : SqT K H a xs := h.elim (fun z => .inl z.1) .inr
theorem FzL.sq {K : PySem.W.Frag} {mp : List Addr} {H : Hp} {a : Addr} {xs : List V} (h : FzL mp H a xs) : SqL K H a xs := .inl (.inl h.1)
theorem FzR.sq {K : PySem.W.Frag} {mp : List Addr} {H : Hp} {a : Addr} {xs : List V} (h : FzR K mp H a xs) : SqL K H a xs := h.elim (fun z => .inl z.1) .inr

mutual
def Rv (Γ : Gm) (mp : List Addr) (H : Hp) : D → V → Prop
  | .non, v => v = .non
  | .bl b, v => v = .bl b
  | .int i, v => v = .int i
  | .str x, v => v = .str x
  | .tup xs, v => ∃ a vs, v = .ref a ∧ FzT mp H a vs ∧ RvL Γ mp H xs vs
  | .lst xs, v => ∃ a vs, v = .ref a ∧ FzL mp H a vs ∧ RvL Γ mp H xs vs
  | .kt xs, v => ∃ a vs, v = .ref a ∧ FzK Γ.K mp H a vs ∧ RvL Γ mp H xs vs
  | .fz xs, v => ∃ a vs, v = .ref a ∧ FzR Γ.K mp H a vs ∧ RvL Γ mp H xs vs
  | .dct ks xs, v => ∃ a vs, v = .ref a ∧ H a = some (.dK (ks.zip vs)) ∧ a ∉ mp ∧ ks.length = vs.length ∧ RvL Γ mp H xs vs
  | .loc n, v => ∃ a, v = .ref a ∧ mp[n]? = some a
  | .gl x, v => ∃ a, v = .ref a ∧ Γ.mg x = some (.ref a)
def RvL (Γ : Gm) (mp : List Addr) (H : Hp) : List D → List V → Prop
  | [], vs => vs = []
  | d :: ds, vs => ∃ v r, vs = v :: r ∧ Rv Γ mp H d v ∧ RvL Γ mp H ds r
end

/-- what grows: cells are added; what is no cell stays -/
structure Ext (mp : List Addr) (H : Hp) (mp' : List Addr) (H' : Hp) : Prop where
  pre : ∀ (n : Nat) (a : Addr), mp[n]? = some a → mp'[n]? = some a
  keep : ∀ a o, H a = some o → a ∉ mp → H' a = some o ∧ a ∉ mp'
theorem Ext.refl (mp : List Addr) (H : Hp) : Ext mp H mp H := ⟨fun _ _ h => h, fun _ _ h n => ⟨h, n⟩⟩
theorem Ext.trans {m1 m2 m3 : List Addr} {H1 H2 H3 : Hp} (a : Ext m1 H1 m2 H2) (b : Ext m2 H2 m3 H3) : Ext m1 H1 m3 H3 :=
  ⟨fun n x h => b.pre n x (a.pre n x h), fun x o h n => let ⟨h1, n1⟩ := a.keep x o h n; b.keep x o h1 n1⟩
theorem Ext.rd {mp mp' : List Addr} {H H' : Hp} (e : Ext mp H mp' H') {a : Addr} {u : HO} (h : Rd H a u) (n : a ∉ mp) : Rd H' a u ∧ a ∉ mp' := by
  rcases h with h | ⟨o, h⟩
  · exact ⟨.inl (e.keep a _ h n).1, (e.keep a _ h n).2⟩
  · exact ⟨.inr ⟨o, (e.keep a _ h n).1⟩, (e.keep a _ h n).2⟩
theorem FzT.ext {mp mp' : List Addr} {H H' : Hp} {a : Addr} {xs : List V} (h : FzT mp H a xs) (e : Ext mp H mp' H') : FzT mp' H' a xs := e.keep _ _ h.1 h.2
theorem FzK.ext {K : PySem.W.Frag} {mp mp' : List Addr} {H H' : Hp} {a : Addr} {xs : List V} (h : FzK K mp H a xs) (e : Ext mp H mp' H') : FzK K mp' H' a xs :=
  h.elim (fun z => .inl (e.rd z.1 z.2)) .inr
theorem FzL.ext {mp mp' : List Addr} {H H' : Hp} {a : Addr} {xs : List V} (h : FzL mp H a xs) (e : Ext mp H mp' H') : FzL mp' H' a xs := e.keep _ _ h.1 h.2
theorem FzR.ext {K : PySem.W.Frag} {mp mp' : List Addr} {H H' : Hp} {a : Addr} {xs : List V} (h : FzR K mp H a xs) (e : Ext mp H mp' H') : FzR K mp' H' a xs :=
  h.elim (fun z => .inl (e.rd z.1 z.2)) .inr

mutual
theorem Rv.ext {Γ : Gm} {mp mp' : List Addr} {H H' : Hp} (e : Ext mp H mp' H') : ∀ (d : D) (v : V), Rv Γ mp H d v → Rv Γ mp' H' d v
  | .non, _, h => by simpa only [Rv] using h
  | .bl _, _, h => by simpa only [Rv] using h
  | .int _, _, h => by simpa only [Rv] using h
  | .str _, _, h => by simpa only [Rv] using h
  | .tup xs, v, h => by
    simp only [Rv] at h ⊢
    obtain ⟨a, vs, h1, h2, h3⟩ := h
    exact ⟨a, vs, h1, h2.ext e, RvL.ext e xs vs h3⟩
  | .lst xs, v, h => by
    simp only [Rv] at h ⊢
    obtain ⟨a, vs, h1, h2, h3⟩ := h
    exact ⟨a, vs, h1, h2.ext e, RvL.ext e xs vs h3⟩
  | .kt xs, v, h => by
    simp only [Rv] at h ⊢
    obtain ⟨a, vs, h1, h2, h3⟩ := h
    exact ⟨a, vs, h1, h2.ext e, RvL.ext e xs vs h3⟩
  | .fz xs, v, h => by
    simp only [Rv] at h ⊢
    obtain ⟨a, vs, h1, h2, h3⟩ := h
    exact ⟨a, vs, h1, h2.ext e, RvL.ext e xs vs h3⟩
  | .dct ks xs, v, h => by
    simp only [Rv] at h ⊢
    obtain ⟨a, vs, h1, h2, h3, h4, h5⟩ := h
    exact ⟨a, vs, h1, (e.keep _ _ h2 h3).1, (e.keep _ _ h2 h3).2, h4, RvL.ext e xs vs h5⟩
  | .loc n, v, h => by
    simp only [Rv] at h ⊢
    obtain ⟨a, h1, h2⟩ := h
    exact ⟨a, h1, e.pre n a h2⟩
  | .gl x, v, h => by simpa only [Rv] using h
theorem RvL.ext {Γ : Gm} {mp mp' : List Addr} {H H' : Hp} (e : Ext mp H mp' H') : ∀ (ds : List D) (vs : List V), RvL Γ mp H ds vs → RvL Γ mp' H' ds vs
  | [], _, h => by simpa only [RvL] using h
  | d :: ds, vs, h => by
    simp only [RvL] at h ⊢
    obtain ⟨v, r, h1, h2, h3⟩ := h
    exact ⟨v, r, h1, Rv.ext e d v h2, RvL.ext e ds r h3⟩
end

section
variable {Γ : Gm} {mp mp' : List Addr} {H H' : Hp}
theorem RvL.nil : RvL Γ mp H [] [] := by simp [RvL]
theorem RvL.cons {d : D} {v : V} {ds : List D} {vs : List V} (h : Rv Γ mp H d v) (r : RvL Γ mp H ds vs) : RvL Γ mp H (d :: ds) (v :: vs) := by
  simp only [RvL]; exact ⟨v, vs, rfl, h, r⟩
theorem RvL.length : ∀ {ds : List D} {vs : List V}, RvL Γ mp H ds vs → ds.length = vs.length
  | [], vs, h => by simp only [RvL] at h; subst h; rfl
  | d :: ds, vs, h => by
    simp only [RvL] at h
    obtain ⟨v, r, rfl, _, h3⟩ := h
    simp [RvL.length h3]
theorem RvL.get : ∀ {ds : List D} {vs : List V} {i : Nat} {d : D}, RvL Γ mp H ds vs → ds[i]? = some d → ∃ v, vs[i]? = some v ∧ Rv Γ mp H d v
  | [], _, _, _, _, e => by simp at e
  | x :: ds, vs, 0, d, h, e => by
    simp only [RvL] at h
    obtain ⟨v, r, rfl, h2, _⟩ := h
    simp at e; subst e
    exact ⟨v, rfl, h2⟩
  | x :: ds, vs, i + 1, d, h, e => by
    simp only [RvL] at h
    obtain ⟨v, r, rfl, _, h3⟩ := h
    obtain ⟨w, e1, e2⟩ := RvL.get (i := i) h3 (by simpa using e)
    exact ⟨w, by simpa using e1, e2⟩
theorem RvL.getV : ∀ {ds : List D} {vs : List V} {i : Nat} {v : V}, RvL Γ mp H ds vs → vs[i]? = some v → ∃ d, ds[i]? = some d ∧ Rv Γ mp H d v
  | [], vs, i, v, h, e => by simp only [RvL] at h; subst h; simp at e
  | x :: ds, vs, 0, v, h, e => by
    simp only [RvL] at h
    obtain ⟨w, r, rfl, h2, _⟩ := h
    simp at e; subst e
    exact ⟨x, rfl, h2⟩
  | x :: ds, vs, i + 1, v, h, e => by
    simp only [RvL] at h
    obtain ⟨w, r, rfl, _, h3⟩ := h
    obtain ⟨d, e1, e2⟩ := RvL.getV (i := i) h3 (by simpa using e)
    exact ⟨d, by simpa using e1, e2⟩
theorem RvL.append : ∀ {ds es : List D} {vs us : List V}, RvL Γ mp H ds vs → RvL Γ mp H es us → RvL Γ mp H (ds ++ es) (vs ++ us)
  | [], es, vs, us, h, h' => by simp only [RvL] at h; subst h; simpa using h'
  | d :: ds, es, vs, us, h, h' => by
    simp only [RvL] at h
    obtain ⟨v, r, rfl, h2, h3⟩ := h
    exact RvL.cons h2 (RvL.append h3 h')
theorem RvL.take : ∀ {ds : List D} {vs : List V} (n : Nat), RvL Γ mp H ds vs → RvL Γ mp H (ds.take n) (vs.take n)
  | _, _, 0, _ => by simp [RvL]
  | [], vs, n + 1, h => by simp only [RvL] at h; subst h; simp [RvL]
  | d :: ds, vs, n + 1, h => by
    simp only [RvL] at h
    obtain ⟨v, r, rfl, h2, h3⟩ := h
    simpa using RvL.cons h2 (RvL.take n h3)
theorem RvL.drop : ∀ {ds : List D} {vs : List V} (n : Nat), RvL Γ mp H ds vs → RvL Γ mp H (ds.drop n) (vs.drop n)
  | _, _, 0, h => h
  | [], vs, n + 1, h => by simp only [RvL] at h; subst h; simp [RvL]
  | d :: ds, vs, n + 1, h => by
    simp only [RvL] at h
    obtain ⟨v, r, rfl, h2, h3⟩ := h
    simpa using RvL.drop n h3
theorem RvL.set : ∀ {ds : List D} {vs : List V} (i : Nat) {d : D} {v : V}, RvL Γ mp H ds vs → Rv Γ mp H d v → RvL Γ mp H (ds.set i d) (vs.set i v)
  | [], vs, i, d, v, h, _ => by simp only [RvL] at h; subst h; simp [RvL]
  | x :: ds, vs, 0, d, v, h, h' => by
    simp only [RvL] at h
    obtain ⟨w, r, rfl, h2, h3⟩ := h
    exact RvL.cons h' h3
  | x :: ds, vs, i + 1, d, v, h, h' => by
    simp only [RvL] at h
    obtain ⟨w, r, rfl, h2, h3⟩ := h
    simpa using RvL.cons h2 (RvL.set i h3 h')
theorem RvL.of_get {ds : List D} : ∀ {vs : List V}, ds.length = vs.length → (∀ (i : Nat) (d : D) (v : V), ds[i]? = some d → vs[i]? = some v → Rv Γ mp H d v) → RvL Γ mp H ds vs := by
  induction ds with
  | nil => intro vs hl _; have : vs = [] := by cases vs <;> simp_all
           subst this; exact RvL.nil
  | cons d ds ih =>
    intro vs hl h
    cases vs with
    | nil => simp at hl
    | cons v vs => exact RvL.cons (h 0 d v rfl rfl) (ih (by simpa using hl) fun i d' v' e1 e2 => h (i + 1) d' v' (by simpa using e1) (by simpa using e2))
end

/-! ### the state -/
def RelC (Γ : Gm) (mp : List Addr) (H : Hp) (a : Addr) : Cell → Prop
  | .lst xs => ∃ vs, H a = some (.lst vs) ∧ RvL Γ mp H xs vs
  | .dK kvs => ∃ vs, H a = some (.dK vs) ∧ vs.map (·.1) = kvs.map (·.1) ∧ RvL Γ mp H (kvs.map (·.2)) (vs.map (·.2))
  | .dT kvs => ∃ vs, H a = some (.dT vs) ∧ vs.map (·.1) = kvs.map (·.1) ∧ RvL Γ mp H (kvs.map (·.2)) (vs.map (·.2))
  | .ins c fs => ∃ C dx vs, H a = some (.ins C dx vs) ∧ Γ.mg c = some (.ref C) ∧ vs.map (·.1) = fs.map (·.1) ∧ RvL Γ mp H (fs.map (·.2)) (vs.map (·.2))
  | .xo c fs => ∃ C, Γ.mg c = some (.ref C) ∧ ((fs = [] ∧ H a = some (ExO (.ref C) a)) ∨ ∃ d vs, H a = some (exo a C (some d)) ∧ H d = some (exd d vs) ∧ d ∉ mp ∧ vs.map (·.1) = fs.map (·.1) ∧ RvL Γ mp H (fs.map (·.2)) (vs.map (·.2)))
  | .tmp => ∃ o, H a = some o
structure RelM (Γ : Gm) (mp : List Addr) (H : Hp) (st : Mem) : Prop where
  len : mp.length = st.length
  nd : mp.Nodup
  cell : ∀ (n : Nat) (c : Cell) (a : Addr), st[n]? = some c → mp[n]? = some a → RelC Γ mp H a c
def RelE (Γ : Gm) (mp : List Addr) (H : Hp) (ρ : Env) (σ : L2.St) : Prop :=
  ρ.length = σ.length ∧ ∀ (i : Nat) (d : D), ρ[i]? = some (some d) → ∃ v, σ[i]? = some (some v) ∧ Rv Γ mp H d v
def RelX (Γ : Gm) (mp : List Addr) (H : Hp) (e : Ex) (cls : Value) (dd : Option Addr) : Prop :=
  ∃ C d vs, Γ.mg e.c = some (.ref C) ∧ cls = .ref C ∧ dd = some d ∧ H d = some (.xd vs) ∧ d ∉ mp ∧ vs.map (·.1) = e.fs.map (·.1) ∧ RvL Γ mp H (e.fs.map (·.2)) (vs.map (·.2))

section
variable {Γ : Gm} {mp mp' : List Addr} {H H' : Hp} {st : Mem}
theorem RelC.has {a : Addr} {c : Cell} (h : RelC Γ mp H a c) : ∃ o, H a = some o := by
  cases c with
  | lst xs => obtain ⟨_, h, _⟩ := h; exact ⟨_, h⟩
  | dK xs => obtain ⟨_, h, _⟩ := h; exact ⟨_, h⟩
  | dT xs => obtain ⟨_, h, _⟩ := h; exact ⟨_, h⟩
  | ins c xs => obtain ⟨_, _, _, h, _⟩ := h; exact ⟨_, h⟩
  | xo c xs => obtain ⟨_, _, ⟨_, h⟩ | ⟨_, _, h, _⟩⟩ := h <;> exact ⟨_, h⟩
  | tmp => exact h
theorem RelC.ext {a : Addr} {c : Cell} (h : RelC Γ mp H a c) (e : Ext mp H mp' H') (hs : H' a = H a) : RelC Γ mp' H' a c := by
  cases c with
  | lst xs => obtain ⟨vs, h, r⟩ := h; exact ⟨vs, hs.trans h, RvL.ext e _ _ r⟩
  | dK xs => obtain ⟨vs, h, k, r⟩ := h; exact ⟨vs, hs.trans h, k, RvL.ext e _ _ r⟩
  | dT xs => obtain ⟨vs, h, k, r⟩ := h; exact ⟨vs, hs.trans h, k, RvL.ext e _ _ r⟩
  | ins c xs => obtain ⟨C, dx, vs, h, m, k, r⟩ := h; exact ⟨C, dx, vs, hs.trans h, m, k, RvL.ext e _ _ r⟩
  | xo c xs =>
    obtain ⟨C, m, ⟨n, h⟩ | ⟨d, vs, h, hd, nd, k, r⟩⟩ := h
    · exact ⟨C, m, .inl ⟨n, hs.trans h⟩⟩
    · exact ⟨C, m, .inr ⟨d, vs, hs.trans h, (e.keep d _ hd nd).1, (e.keep d _ hd nd).2, k, RvL.ext e _ _ r⟩⟩
  | tmp => obtain ⟨o, h⟩ := h; exact ⟨o, hs.trans h⟩
theorem RelM.has (R : RelM Γ mp H st) {a : Addr} (h : a ∈ mp) : ∃ o, H a = some o := by
  obtain ⟨n, hn, e⟩ := List.mem_iff_getElem.mp h
  have hn' : n < st.length := by rw [← R.len]; exact hn
  exact (R.cell n st[n] a (by simp [hn']) (by simp [hn, e])).has
theorem RelM.fresh (R : RelM Γ mp H st) {a : Addr} (h : H a = none) : a ∉ mp := fun z => by
  obtain ⟨o, e⟩ := R.has z
  rw [h] at e; cases e
/-- a thing laid that is no cell -/
theorem ext_laid {a : Addr} {o : HO} (h : H a = none) : Ext mp H mp (upd H a o) :=
  ⟨fun _ _ z => z, fun b u e n => ⟨by rw [upd_ne (ne_of_none e h)]; exact e, n⟩⟩
theorem RelM.laid (R : RelM Γ mp H st) {a : Addr} {o : HO} (h : H a = none) : RelM Γ mp (upd H a o) st :=
  ⟨R.len, R.nd, fun n c b e1 e2 => (R.cell n c b e1 e2).ext (ext_laid h) (by
    obtain ⟨u, e⟩ := (R.cell n c b e1 e2).has
    exact upd_ne (ne_of_none e h))⟩
theorem ext_same (s : ∀ a o, H a = some o → H' a = some o) : Ext mp H mp H' := ⟨fun _ _ z => z, fun b u e n => ⟨s b u e, n⟩⟩
theorem RelM.same (R : RelM Γ mp H st) (s : ∀ a o, H a = some o → H' a = some o) : RelM Γ mp H' st :=
  ⟨R.len, R.nd, fun n c b e1 e2 => (R.cell n c b e1 e2).ext (ext_same s) (by
    obtain ⟨u, e⟩ := (R.cell n c b e1 e2).has
    rw [s b u e, e])⟩
/-- a cell laid -/
theorem ext_cell {a : Addr} {o : HO} (h : H a = none) : Ext mp H (mp ++ [a]) (upd H a o) :=
  ⟨fun n b z => by rw [List.getElem?_append_left (List.getElem?_eq_some_iff.mp z).1]; exact z,
   fun b u e n => ⟨by rw [upd_ne (ne_of_none e h)]; exact e, fun z => by
    rcases List.mem_append.mp z with z | z
    · exact n z
    · exact ne_of_none e h (by simpa using z)⟩⟩
theorem RelM.push (R : RelM Γ mp H st) {a : Addr} {o : HO} {c : Cell} (h : H a = none) (hc : RelC Γ (mp ++ [a]) (upd H a o) a c) : RelM Γ (mp ++ [a]) (upd H a o) (st ++ [c]) := by
  refine ⟨by simp [R.len], ?_, fun n c' b e1 e2 => ?_⟩
  · rw [List.nodup_append]
    refine ⟨R.nd, by simp, fun x hx y hy => ?_⟩
    have : y = a := by simpa using hy
    subst this
    exact fun z => R.fresh h (z ▸ hx)
  · by_cases hn : n < st.length
    · rw [List.getElem?_append_left hn] at e1
      rw [List.getElem?_append_left (by rw [R.len]; exact hn)] at e2
      have q := R.cell n c' b e1 e2
      obtain ⟨u, e⟩ := q.has
      exact q.ext (ext_cell h) (upd_ne (ne_of_none e h))
    · have hl := (List.getElem?_eq_some_iff.mp e1).1
      have : n = st.length := by simp at hl; omega
      subst this
      rw [List.getElem?_append_right (Nat.le_refl _)] at e1
      rw [← R.len, List.getElem?_append_right (Nat.le_refl _)] at e2
      simp at e1 e2
      subst e1 e2
      exact hc
/-- a cell written -/
theorem ext_write {a : Addr} {o : HO} (h : a ∈ mp) : Ext mp H mp (upd H a o) :=
  ⟨fun _ _ z => z, fun b u e n => ⟨by rw [upd_ne (fun z => n (by rw [z]; exact h))]; exact e, n⟩⟩
theorem RelM.write (R : RelM Γ mp H st) {n : Nat} {a : Addr} {o : HO} {c : Cell} (hn : mp[n]? = some a) (hc : RelC Γ mp (upd H a o) a c) : RelM Γ mp (upd H a o) (st.set n c) := by
  have ha : a ∈ mp := List.mem_of_getElem? hn
  refine ⟨by simp [R.len], R.nd, fun k c' b e1 e2 => ?_⟩
  by_cases hk : k = n
  · subst hk
    rw [hn] at e2; cases e2
    have hl : k < st.length := by have := (List.getElem?_eq_some_iff.mp e1).1; simpa using this
    rw [List.getElem?_set_self hl] at e1
    cases e1
    exact hc
  · rw [List.getElem?_set_ne (Ne.symm hk)] at e1
    have hb : b ≠ a := by
      intro z; subst z
      obtain ⟨h1, q1⟩ := List.getElem?_eq_some_iff.mp e2
      obtain ⟨h2, q2⟩ := List.getElem?_eq_some_iff.mp hn
      exact hk ((List.getElem_inj R.nd).mp (q1.trans q2.symm))
    exact (R.cell k c' b e1 e2).ext (ext_write ha) (upd_ne hb)
theorem RelE.ext {ρ : Env} {σ : L2.St} (h : RelE Γ mp H ρ σ) (e : Ext mp H mp' H') : RelE Γ mp' H' ρ σ :=
  ⟨h.1, fun i d q => let ⟨v, h1, h2⟩ := h.2 i d q; ⟨v, h1, Rv.ext e d v h2⟩⟩
theorem RelE.set {ρ : Env} {σ : L2.St} (h : RelE Γ mp H ρ σ) (i : Nat) {d : D} {v : V} (r : Rv Γ mp H d v) : RelE Γ mp H (ρ.set i (some d)) (σ.set i (some v)) := by
  refine ⟨by simp [h.1], fun j d' e => ?_⟩
  by_cases hj : j = i
  · subst hj
    have hl : j < ρ.length := by have := (List.getElem?_eq_some_iff.mp e).1; simpa using this
    rw [List.getElem?_set_self hl] at e
    cases e
    exact ⟨v, by rw [List.getElem?_set_self (by rw [← h.1]; exact hl)], r⟩
  · rw [List.getElem?_set_ne (Ne.symm hj)] at e ⊢
    exact h.2 j d' e
end
end VI
set_option maxHeartbeats 4000000
namespace VI
open PySem PySem.Spec PyProof.Rows L2

/-- what is wanted of a result: by what it gives (Rel), or of the exception -/
def PostG {α β : Type} (Γ : Gm) (Rel : List Addr → Hp → α → β → Prop) (mp : List Addr) (H : Hp) (r : Res α) (Q : β → Hp → Prop) (W : XK) : Prop :=
  match r with
  | .ok d st' => ∀ mp' H' v, Ext mp H mp' H' → RelM Γ mp' H' st' → Rel mp' H' d v → Q v H'
  | .exc e st' => ∀ mp' H' cls dd, Ext mp H mp' H' → RelM Γ mp' H' st' → RelX Γ mp' H' e cls dd → W cls dd H'
  | .bad => False
abbrev RB : List Addr → Hp → Bool → Bool → Prop := fun _ _ a b => a = b
abbrev Post (Γ : Gm) := PostG Γ (Rv Γ)
abbrev PostL (Γ : Gm) := PostG Γ (RvL Γ)
abbrev PostB (Γ : Gm) := PostG Γ RB
section
variable {α β γ δ : Type} {Γ : Gm} {Rel : List Addr → Hp → α → β → Prop} {Rel2 : List Addr → Hp → γ → δ → Prop} {mp mp' : List Addr} {H H' : Hp} {W : XK}
theorem PostG.ext {r : Res α} {Q : β → Hp → Prop} (h : PostG Γ Rel mp H r Q W) (e : Ext mp H mp' H') : PostG Γ Rel mp' H' r Q W := by
  cases r with
  | ok d st => exact fun m2 H2 v e2 R r => h m2 H2 v (e.trans e2) R r
  | exc x st => exact fun m2 H2 c dd e2 R r => h m2 H2 c dd (e.trans e2) R r
  | bad => exact h
theorem PostG.bind {r : Res α} {k : α → Mem → Res γ} {Q : δ → Hp → Prop} (h : PostG Γ Rel2 mp H (r.bind k) Q W) :
    PostG Γ Rel mp H r (fun v H1 => ∃ mp1 st1 a, Ext mp H mp1 H1 ∧ RelM Γ mp1 H1 st1 ∧ Rel mp1 H1 a v ∧ PostG Γ Rel2 mp1 H1 (k a st1) Q W) W := by
  cases r with
  | ok d st => exact fun m2 H2 v e2 R r => ⟨m2, st, d, e2, R, r, PostG.ext (r := k d st) h e2⟩
  | exc x st => exact h
  | bad => exact h
/-- .. knowing which -/
theorem PostG.bind' {r : Res α} {k : α → Mem → Res γ} {Q : δ → Hp → Prop} (h : PostG Γ Rel2 mp H (r.bind k) Q W) :
    PostG Γ Rel mp H r (fun v H1 => ∃ mp1 st1 a, r = .ok a st1 ∧ Ext mp H mp1 H1 ∧ RelM Γ mp1 H1 st1 ∧ Rel mp1 H1 a v ∧ PostG Γ Rel2 mp1 H1 (k a st1) Q W) W := by
  cases r with
  | ok d st => exact fun m2 H2 v e2 R r => ⟨m2, st, d, rfl, e2, R, r, PostG.ext (r := k d st) h e2⟩
  | exc x st => exact h
  | bad => exact h
theorem PostG.mono {r : Res α} {Q Q' : β → Hp → Prop} (h : PostG Γ Rel mp H r Q W) (q : ∀ v H, Q v H → Q' v H) : PostG Γ Rel mp H r Q' W := by
  cases r with
  | ok d st => exact fun m2 H2 v e2 R r => q _ _ (h m2 H2 v e2 R r)
  | exc x st => exact h
  | bad => exact h
end

theorem PE.imp {X : Cx} {e : Expr} {t t' : TE} (h : PE X e t) (i : ∀ σ H Q, t' σ H Q → t σ H Q) : PE X e t' := ⟨fun pins s σ H Q I q => h.run pins s σ H Q I (i σ H Q q)⟩
theorem PT.imp {X : Cx} {e : Expr} {t t' : TT} (h : PT X e t) (i : ∀ σ H Q, t' σ H Q → t σ H Q) : PT X e t' := ⟨fun pins s σ H Q I q => h.run pins s σ H Q I (i σ H Q q)⟩
theorem PW.imp {X : Cx} {e : Expr} {t t' : TT} (h : PW X e t) (i : ∀ σ H Q, t' σ H Q → t σ H Q) : PW X e t' := ⟨fun wh pins s σ H Q I q => h.run wh pins s σ H Q I (i σ H Q q)⟩
theorem PA.imp {X : Cx} {e : List Expr} {t t' : TA} (h : PA X e t) (i : ∀ σ H Q, t' σ H Q → t σ H Q) : PA X e t' := ⟨fun pos pins s σ H Q I q => h.run pos pins s σ H Q I (i σ H Q q)⟩

abbrev ME := Env → Mem → Res D
abbrev MB := Env → Mem → Res Bool
abbrev ML := Env → Mem → Res (List D)
/-- the reading of a function -/
def tG {α β : Type} (Γ : Gm) (Rel : List Addr → Hp → α → β → Prop) (W : WX) (m : Env → Mem → Res α) : L2.St → Hp → (β → Hp → Prop) → Prop :=
  fun σ H Q => ∃ mp st ρ, RelM Γ mp H st ∧ RelE Γ mp H ρ σ ∧ PostG Γ Rel mp H (m ρ st) Q (fun c d H' => W c d σ H')
abbrev tE (Γ : Gm) (W : WX) (m : ME) : TE := tG Γ (Rv Γ) W m
abbrev tB' (Γ : Gm) (W : WX) (m : MB) : TT := tG Γ RB W m
abbrev tL (Γ : Gm) (W : WX) (m : ML) : TA := tG Γ (RvL Γ) W m
structure SE (X : Cx) (e : Expr) (m : ME) : Prop where
  run : ∀ W, Takes X W → PE X e (tE (gm X) W m)
structure ST (X : Cx) (e : Expr) (m : MB) : Prop where
  run : ∀ W, Takes X W → PT X e (tB' (gm X) W m)
structure SW (X : Cx) (e : Expr) (m : MB) : Prop where
  run : ∀ W, Takes X W → PW X e (tB' (gm X) W m)
/-- the argument lists -/
def mArgs : List ME → ML
  | [], _, st => .ok [] st
  | m :: ms, ρ, st => (m ρ st).bind fun d st1 => (mArgs ms ρ st1).bind fun ds st2 => .ok (d :: ds) st2
structure SA (X : Cx) (es : List Expr) (ms : List ME) : Prop where
  run : ∀ W, Takes X W → PA X es (tL (gm X) W (mArgs ms))
  len : ms.length = es.length
theorem mArgs_len : ∀ {ms : List ME} {ρ : Env} {st st' : Mem} {ds : List D}, mArgs ms ρ st = .ok ds st' → ds.length = ms.length
  | [], _, _, _, _, h => by simp only [mArgs, Res.ok.injEq] at h; obtain ⟨rfl, _⟩ := h; rfl
  | m :: ms, ρ, st, st', ds, h => by
    simp only [mArgs] at h
    cases e : m ρ st with
    | bad => rw [e] at h; simp at h
    | exc x s => rw [e] at h; simp at h
    | ok d s =>
      rw [e] at h
      simp only [Res.ok_bind] at h
      cases e2 : mArgs ms ρ s with
      | bad => rw [e2] at h; simp at h
      | exc x s => rw [e2] at h; simp at h
      | ok ds' s2 =>
        rw [e2] at h
        simp only [Res.ok_bind, Res.ok.injEq] at h
        obtain ⟨rfl, _⟩ := h
        simp [mArgs_len e2]

section
variable {X : Cx} {a b c : Expr} {ma mb mc : ME} {pos : Pos}
/-- from the start: a reading and then -/
theorem tG_bind {α β γ δ : Type} {Γ : Gm} {Rel : List Addr → Hp → α → β → Prop} {Rel2 : List Addr → Hp → γ → δ → Prop} {W : WX} {m : Env → Mem → Res α} {k : Env → α → Mem → Res γ} {σ : L2.St} {H : Hp} {Q : δ → Hp → Prop}
    (h : tG Γ Rel2 W (fun ρ st => (m ρ st).bind (k ρ)) σ H Q) :
    tG Γ Rel W m σ H (fun v H1 => ∃ mp1 st1 ρ a, RelM Γ mp1 H1 st1 ∧ RelE Γ mp1 H1 ρ σ ∧ Rel mp1 H1 a v ∧ PostG Γ Rel2 mp1 H1 (k ρ a st1) Q (fun c d H' => W c d σ H')) := by
  obtain ⟨mp, st, ρ, R, E, P⟩ := h
  exact ⟨mp, st, ρ, R, E, P.bind.mono fun v H1 ⟨mp1, st1, a, e, R1, r, P1⟩ => ⟨mp1, st1, ρ, a, R1, E.ext e, r, P1⟩⟩
/-- .. keeping what is known ahead -/
theorem tG_bindK {α β γ δ : Type} {Γ : Gm} {Rel : List Addr → Hp → α → β → Prop} {Rel2 : List Addr → Hp → γ → δ → Prop} {W : WX} {σ : L2.St} {H : Hp} {Q : δ → Hp → Prop} {m : Env → Mem → Res α} {k : α → Mem → Res γ} {ρ : Env} {st : Mem} {mp : List Addr}
    (R : RelM Γ mp H st) (E : RelE Γ mp H ρ σ) (P : PostG Γ Rel2 mp H ((m ρ st).bind k) Q (fun c d H' => W c d σ H')) :
    tG Γ Rel W m σ H (fun v H1 => ∃ mp1 st1 a, m ρ st = .ok a st1 ∧ Ext mp H mp1 H1 ∧ RelM Γ mp1 H1 st1 ∧ RelE Γ mp1 H1 ρ σ ∧ Rel mp1 H1 a v ∧ PostG Γ Rel2 mp1 H1 (k a st1) Q (fun c d H' => W c d σ H')) :=
  ⟨mp, st, ρ, R, E, P.bind'.mono fun v H1 ⟨mp1, st1, a, q, e, R1, r, P1⟩ => ⟨mp1, st1, a, q, e, R1, E.ext e, r, P1⟩⟩

/-! ### names, constants -/
def mVar (i : Nat) : ME := fun ρ st => match ρ[i]? with
  | some (some d) => .ok d st
  | _ => .bad
def mC (d : D) : ME := fun _ st => .ok d st
theorem se_of {e : Expr} {m : ME} {t : TE} (h : PE X e t) (i : ∀ W σ H Q, tE (gm X) W m σ H Q → t σ H Q) : SE X e m := ⟨fun W _ => PE.imp h (i W)⟩
theorem se_var {i : Nat} {x : Str} (hN : X.N[i]? = some x) (hv : Vis X.env.scope x) (hd : (x == ("__debug__" : Str)) = false := by decide) (hcd : (x == ("__classdict__" : Str)) = false := by decide) : SE X (.Name x pos) (mVar i) :=
  se_of (pe_var hN hv hd hcd) fun W σ H Q ⟨mp, st, ρ, R, E, P⟩ => by
    unfold mVar at P
    split at P
    · rename_i d e
      obtain ⟨v, h1, h2⟩ := E.2 i d e
      exact ⟨v, h1, P mp H v (Ext.refl _ _) R h2⟩
    · exact P.elim
theorem postC {Γ : Gm} {mp : List Addr} {H : Hp} {d : D} {st : Mem} {Q : VK} {W : XK} {v : V} (P : Post Γ mp H (.ok d st) Q W) (R : RelM Γ mp H st) (h : Rv Γ mp H d v) : Q v H := P mp H v (Ext.refl _ _) R h
theorem se_int {i : Int} {j : Nat} : SE X (.Constant (.int i) j pos) (mC (.int i)) := se_of pe_int fun W σ H Q ⟨mp, st, ρ, R, E, P⟩ => postC P R (by simp [Rv])
theorem se_bl {i : Bool} {j : Nat} : SE X (.Constant (.bool i) j pos) (mC (.bl i)) := se_of pe_bl fun W σ H Q ⟨mp, st, ρ, R, E, P⟩ => postC P R (by simp [Rv])
theorem se_non {j : Nat} : SE X (.Constant .none j pos) (mC .non) := se_of pe_non fun W σ H Q ⟨mp, st, ρ, R, E, P⟩ => postC P R (by simp [Rv])
theorem se_str {x : Str} {j : Nat} : SE X (.Constant (.str x) j pos) (mC (.str x)) := se_of pe_str fun W σ H Q ⟨mp, st, ρ, R, E, P⟩ => postC P R (by simp [Rv])
/-- a module's constant, class, def -/
theorem se_glob {x : Str} {v : V} {u : Value} {d : D} (hg : Gl X x) (hm : X.mg x = some u) (r : RelV v u) (hd : ∀ mp H, Rv (gm X) mp H d v) (hdb : (x == ("__debug__" : Str)) = false := by decide) : SE X (.Name x pos) (mC d) :=
  se_of (pe_glob hg hm r hdb) fun W σ H Q ⟨mp, st, ρ, R, E, P⟩ => postC P R (hd _ _)
theorem se_gl {x : Str} {f : Addr} (hg : Gl X x) (hm : X.mg x = some (.ref f)) (hdb : (x == ("__debug__" : Str)) = false := by decide) : SE X (.Name x pos) (mC (.gl x)) :=
  se_glob hg hm (v := .ref f) rfl (fun _ _ => by simp only [Rv]; exact ⟨f, rfl, hm⟩) hdb

/-! ### operators -/
abbrev F1 := D → Mem → Res D
abbrev F2 := D → D → Mem → Res D
def m1 (f : F1) (ma : ME) : ME := fun ρ st => (ma ρ st).bind f
def m2 (f : F2) (ma mb : ME) : ME := fun ρ st => (ma ρ st).bind fun d st1 => (mb ρ st1).bind fun e st2 => f d e st2
/-- r serves what f does -/
def Srv2 (Γ : Gm) (f : F2) (r : R2) : Prop := ∀ mp H st d e x y (Q : VK) (W : XK), RelM Γ mp H st → Rv Γ mp H d x → Rv Γ mp H e y → Post Γ mp H (f d e st) Q W → r x y H Q
def Srv1 (Γ : Gm) (f : F1) (r : V → Hp → VK → Prop) : Prop := ∀ mp H st d x (Q : VK) (W : XK), RelM Γ mp H st → Rv Γ mp H d x → Post Γ mp H (f d st) Q W → r x H Q
theorem tOp_of {f : F2} {r : R2} {W : WX} {σ : L2.St} {H : Hp} {Q : VK} {Γ : Gm} (hf : Srv2 Γ f r) (h : tE Γ W (m2 f ma mb) σ H Q) : tOp r (tE Γ W ma) (tE Γ W mb) σ H Q := by
  obtain ⟨mp, st, ρ, R, E, P⟩ := tG_bind (Rel := Rv Γ) (m := ma) (k := fun ρ d st1 => (mb ρ st1).bind fun e st2 => f d e st2) h
  refine ⟨mp, st, ρ, R, E, P.mono fun x H1 ⟨mp1, st1, ρ1, d, R1, E1, r1, P1⟩ => ?_⟩
  obtain ⟨mp2, st2, ρ2, R2, E2, P2⟩ := tG_bindK (Rel := Rv Γ) (m := mb) R1 E1 P1
  exact ⟨mp2, st2, ρ2, R2, E2, P2.mono fun y H2 ⟨mp3, st3, e, _, x3, R3, E3, r3, P3⟩ => hf mp3 H2 st3 d e x y Q _ R3 (Rv.ext x3 _ _ r1) r3 P3⟩
theorem tUn_of {f : F1} {r : V → Hp → VK → Prop} {W : WX} {σ : L2.St} {H : Hp} {Q : VK} {Γ : Gm} (hf : Srv1 Γ f r) (h : tE Γ W (m1 f ma) σ H Q) : tE Γ W ma σ H (fun x H1 => r x H1 Q) := by
  obtain ⟨mp, st, ρ, R, E, P⟩ := tG_bind (Rel := Rv Γ) (m := ma) (k := fun _ d st1 => f d st1) h
  exact ⟨mp, st, ρ, R, E, P.mono fun x H1 ⟨mp1, st1, ρ1, d, R1, E1, r1, P1⟩ => hf _ _ _ _ _ _ _ R1 r1 P1⟩
theorem se_op {op : Operator} {r : R2} {f : F2} (ho : OpR X (binaryOp op) r) (hf : Srv2 (gm X) f r) (ha : SE X a ma) (hb : SE X b mb) : SE X (.BinOp a op b pos) (m2 f ma mb) :=
  ⟨fun W tk => PE.imp (pe_op ho (ha.run W tk) (hb.run W tk)) fun σ H Q h => tOp_of hf h⟩
theorem se_un {op : UnaryOp} {r : V → Hp → VK → Prop} {f : F1} (ho : UnR X (unaryOp op) r) (hf : Srv1 (gm X) f r) (ha : SE X a ma) : SE X (.UnaryOp op a pos) (m1 f ma) :=
  ⟨fun W tk => PE.imp (pe_un ho (ha.run W tk)) fun σ H Q h => tUn_of hf h⟩
theorem se_cmp {op : CmpOp} {r : R2} {f : F2} (ho : OpR X (compareOp op) r) (hf : Srv2 (gm X) f r) (ha : SE X a ma) (hb : SE X b mb) (hm : behindInMarks op b = false) : SE X (.Compare a [op] [b] pos) (m2 f ma mb) :=
  ⟨fun W tk => PE.imp (pe_cmpR ho (ha.run W tk) (hb.run W tk) hm) fun σ H Q h => tOp_of hf h⟩
/-- a[b] -/
theorem se_ix {r : R2} {f : F2} (ho : IxR X r) (hf : Srv2 (gm X) f r) (ha : SE X a ma) (hb : SE X b mb) (hs : PlainIx b) : SE X (.Subscript a b pos) (m2 f ma mb) :=
  ⟨fun W tk => PE.imp (pe_ix ho (ha.run W tk) (hb.run W tk) hs) fun σ H Q h => tOp_of hf h⟩

/-! ### tests -/
def resB : D → Mem → Res Bool
  | .bl b, st => .ok b st
  | _, _ => .bad
def asB (m : ME) : MB := fun ρ st => (m ρ st).bind resB
theorem post_asB {Γ : Gm} {mp : List Addr} {H : Hp} {d : D} {st : Mem} {Q : Bool → Hp → Prop} {W : XK} {x : V} (R : RelM Γ mp H st) (h : Rv Γ mp H d x)
    (P : PostB Γ mp H (resB d st) Q W) : ∃ k, x = .bl k ∧ Q k H := by
  cases d with
  | bl b =>
    simp only [Rv] at h
    exact ⟨b, h, P mp H b (Ext.refl _ _) R rfl⟩
  | _ => exact P.elim
theorem tTest_of {W : WX} {σ : L2.St} {H : Hp} {Q : Bool → Hp → Prop} {Γ : Gm} {m : ME} (h : tB' Γ W (asB m) σ H Q) : tE Γ W m σ H fun x H' => ∃ k, x = .bl k ∧ Q k H' := by
  obtain ⟨mp, st, ρ, R, E, P⟩ := tG_bind (Rel := Rv Γ) (m := m) (k := fun _ => resB) h
  exact ⟨mp, st, ρ, R, E, P.mono fun x H1 ⟨mp1, st1, ρ1, d, R1, E1, r1, P1⟩ => post_asB R1 r1 P1⟩
theorem st_cmp {op : CmpOp} {r : R2} {f : F2} (ho : OpR X (compareOp op) r) (hf : Srv2 (gm X) f r) (ha : SE X a ma) (hb : SE X b mb) (hm : behindInMarks op b = false) : ST X (.Compare a [op] [b] pos) (asB (m2 f ma mb)) :=
  ⟨fun W tk => PT.imp (pt_cmpR ho (ha.run W tk) (hb.run W tk) hm) fun σ H Q h => tOp_of (r := fun x y H2 Q' => r x y H2 Q') (Q := fun x H' => ∃ k, x = .bl k ∧ Q k H') hf (tTest_of h)⟩
def truD : D → Mem → Option Bool
  | .non, _ => some false
  | .bl b, _ => some b
  | .int i, _ => some (i != 0)
  | .str x, _ => if x.length ≤ 16777216 then some ((x.length : Int) != 0) else none
  | .tup xs, _ => some (!xs.isEmpty)
  | .lst xs, _ => some (!xs.isEmpty)
  | .fz xs, _ => some (!xs.isEmpty)
  | .kt xs, _ => some (!xs.isEmpty)
  | .dct ks _, _ => some (!ks.isEmpty)
  | .loc n, st => match st[n]? with
    | some (.lst xs) => some (!xs.isEmpty)
    | some (.dK kvs) => some (!kvs.isEmpty)
    | _ => none
  | .gl _, _ => none
theorem empty_of_len {α β : Type} {xs : List α} {ys : List β} (h : xs.length = ys.length) : xs.isEmpty = ys.isEmpty := by
  cases xs <;> cases ys <;> simp_all
theorem tru_of {Γ : Gm} {mp : List Addr} {H : Hp} {st : Mem} {d : D} {x : V} {k : Bool} (R : RelM Γ mp H st) (h : Rv Γ mp H d x) (e : truD d st = some k) : TruV Γ.K x H k := by
  have hl : sizeLine = 16777216 := sizeLine_eq
  cases d with
  | non => simp only [Rv, truD, Option.some.injEq] at h e; subst h e; rfl
  | bl b => simp only [Rv, truD, Option.some.injEq] at h e; subst h e; rfl
  | int i => simp only [Rv, truD, Option.some.injEq] at h e; subst h e; rfl
  | str y =>
    simp only [Rv, truD] at h e; subst h
    split at e
    · cases e; exact ⟨by omega, rfl⟩
    · cases e
  | tup xs =>
    simp only [Rv, truD, Option.some.injEq] at h e
    obtain ⟨a, vs, rfl, q, r⟩ := h
    exact .inr (.inl ⟨vs, q.sq, by rw [← e, empty_of_len r.length]⟩)
  | lst xs =>
    simp only [Rv, truD, Option.some.injEq] at h e
    obtain ⟨a, vs, rfl, q, r⟩ := h
    exact .inl ⟨vs, q.sq, by rw [← e, empty_of_len r.length]⟩
  | fz xs =>
    simp only [Rv, truD, Option.some.injEq] at h e
    obtain ⟨a, vs, rfl, q, r⟩ := h
    exact .inl ⟨vs, q.sq, by rw [← e, empty_of_len r.length]⟩
  | kt xs =>
    simp only [Rv, truD, Option.some.injEq] at h e
    obtain ⟨a, vs, rfl, q, r⟩ := h
    exact .inr (.inl ⟨vs, q.sq, by rw [← e, empty_of_len r.length]⟩)
  | dct ks xs =>
    simp only [Rv, truD, Option.some.injEq] at h e
    obtain ⟨a, vs, rfl, q, n, l, r⟩ := h
    refine .inr (.inr ⟨_, q, ?_⟩)
    rw [← e]
    cases ks <;> cases vs <;> simp_all
  | loc n =>
    simp only [Rv] at h
    obtain ⟨a, rfl, hm⟩ := h
    simp only [truD] at e
    split at e
    · rename_i xs hs
      obtain ⟨vs, q, r⟩ := R.cell n _ a hs hm
      cases e
      exact .inl ⟨vs, SqL.of q, by rw [empty_of_len r.length]⟩
    · rename_i kvs hs
      obtain ⟨vs, q, k', r⟩ := R.cell n _ a hs hm
      cases e
      refine .inr (.inr ⟨vs, q, ?_⟩)
      have := congrArg List.length k'
      rw [empty_of_len (by simpa using this.symm)]
    · cases e
  | gl y => simp [truD] at e
def resT (d : D) (st : Mem) : Res Bool := match truD d st with
  | some b => .ok b st
  | none => .bad
def asT (m : ME) : MB := fun ρ st => (m ρ st).bind resT
theorem post_asT {Γ : Gm} {mp : List Addr} {H : Hp} {d : D} {st : Mem} {Q : Bool → Hp → Prop} {W : XK} {x : V} (R : RelM Γ mp H st) (h : Rv Γ mp H d x)
    (P : PostB Γ mp H (resT d st) Q W) : ∃ k, TruV Γ.K x H k ∧ Q k H := by
  unfold resT at P
  cases e : truD d st with
  | none => rw [e] at P; exact P.elim
  | some k => rw [e] at P; exact ⟨k, tru_of R h e, P mp H k (Ext.refl _ _) R rfl⟩
theorem st_truth (ha : SE X a ma) (he : ∀ whole, isTrue a X.env whole = (do let v ← whole; standAt a.pos; holding [v] (truthy v))) : ST X a (asT ma) :=
  ⟨fun W tk => PT.imp (pt_truth (ha.run W tk) he) fun σ H Q h => by
    obtain ⟨mp, st, ρ, R, E, P⟩ := tG_bind (Rel := Rv (gm X)) (m := ma) (k := fun _ => resT) h
    exact ⟨mp, st, ρ, R, E, P.mono fun x H1 ⟨mp1, st1, ρ1, d, R1, E1, r1, P1⟩ => post_asT R1 r1 P1⟩⟩
def mNot (m : MB) : MB := fun ρ st => (m ρ st).bind fun b st1 => .ok (!b) st1
def mAnd (m n : MB) : MB := fun ρ st => (m ρ st).bind fun b st1 => if b = true then n ρ st1 else .ok false st1
def mOr (m n : MB) : MB := fun ρ st => (m ρ st).bind fun b st1 => if b = true then .ok true st1 else n ρ st1
variable {na nb : MB}
theorem SW.st (h : SW X a na) : ST X a na := ⟨fun W tk => (h.run W tk).pt⟩
theorem st_not (ha : ST X a na) : ST X (.UnaryOp .Not a pos) (mNot na) := ⟨fun W tk => PT.imp (pt_not (ha.run W tk)) fun σ H Q h => by
  obtain ⟨mp, st, ρ, R, E, P⟩ := tG_bind (Rel := RB) (m := na) (k := fun _ b st1 => .ok (!b) st1) h
  exact ⟨mp, st, ρ, R, E, P.mono fun x H1 ⟨mp1, st1, ρ1, d, R1, E1, r1, P1⟩ => by cases r1; exact P1 mp1 H1 _ (Ext.refl _ _) R1 rfl⟩⟩
theorem sw_and1 (ha : ST X a na) : SW X (.BoolOp .And [a] pos) na := ⟨fun W tk => pw_and1 (ha.run W tk)⟩
theorem sw_or1 (ha : ST X a na) : SW X (.BoolOp .Or [a] pos) na := ⟨fun W tk => pw_or1 (ha.run W tk)⟩
theorem sw_and {rest : List Expr} (ha : ST X a na) (hb : SW X (.BoolOp .And (b :: rest) pos) nb) : SW X (.BoolOp .And (a :: b :: rest) pos) (mAnd na nb) := ⟨fun W tk => PW.imp (pw_and (ha.run W tk) (hb.run W tk)) fun σ H Q h => by
  obtain ⟨mp, st, ρ, R, E, P⟩ := tG_bind (Rel := RB) (m := na) (k := fun ρ b st1 => if b = true then nb ρ st1 else .ok false st1) h
  refine ⟨mp, st, ρ, R, E, P.mono fun x H1 ⟨mp1, st1, ρ1, d, R1, E1, r1, P1⟩ => ?_⟩
  cases r1
  cases x with
  | true => exact ⟨mp1, st1, ρ1, R1, E1, P1⟩
  | false => exact P1 mp1 H1 _ (Ext.refl _ _) R1 rfl⟩
theorem sw_or {rest : List Expr} (ha : ST X a na) (hb : SW X (.BoolOp .Or (b :: rest) pos) nb) : SW X (.BoolOp .Or (a :: b :: rest) pos) (mOr na nb) := ⟨fun W tk => PW.imp (pw_or (ha.run W tk) (hb.run W tk)) fun σ H Q h => by
  obtain ⟨mp, st, ρ, R, E, P⟩ := tG_bind (Rel := RB) (m := na) (k := fun ρ b st1 => if b = true then .ok true st1 else nb ρ st1) h
  refine ⟨mp, st, ρ, R, E, P.mono fun x H1 ⟨mp1, st1, ρ1, d, R1, E1, r1, P1⟩ => ?_⟩
  cases r1
  cases x with
  | false => exact ⟨mp1, st1, ρ1, R1, E1, P1⟩
  | true => exact P1 mp1 H1 _ (Ext.refl _ _) R1 rfl⟩
/-- .. as values -/
def mNotV (m : ME) : ME := fun ρ st => (m ρ st).bind fun d st1 => match truD d st1 with
  | some b => .ok (.bl (!b)) st1
  | none => .bad
def mAndV (m n : ME) : ME := fun ρ st => (m ρ st).bind fun d st1 => match truD d st1 with
  | some true => n ρ st1
  | some false => .ok d st1
  | none => .bad
def mOrV (m n : ME) : ME := fun ρ st => (m ρ st).bind fun d st1 => match truD d st1 with
  | some true => .ok d st1
  | some false => n ρ st1
  | none => .bad
theorem se_not (ha : SE X a ma) : SE X (.UnaryOp .Not a pos) (mNotV ma) := ⟨fun W tk => PE.imp (pe_notT (ha.run W tk)) fun σ H Q h => by
  obtain ⟨mp, st, ρ, R, E, P⟩ := tG_bind (Rel := Rv (gm X)) (m := ma) (k := fun _ d st1 => match truD d st1 with | some b => Res.ok (D.bl (!b)) st1 | none => Res.bad) h
  refine ⟨mp, st, ρ, R, E, P.mono fun x H1 ⟨mp1, st1, ρ1, d, R1, E1, r1, P1⟩ => ?_⟩
  cases e : truD d st1 with
  | none => simp only [e] at P1; exact P1.elim
  | some k => simp only [e] at P1; exact ⟨k, tru_of R1 r1 e, P1 mp1 H1 _ (Ext.refl _ _) R1 (by simp [Rv])⟩⟩
theorem se_one {op : BoolOp} (ha : SE X a ma) : SE X (.BoolOp op [a] pos) ma := ⟨fun W tk => pe_one (ha.run W tk)⟩
theorem se_and {rest : List Expr} (ha : SE X a ma) (hb : SE X (.BoolOp .And (b :: rest) pos) mb) : SE X (.BoolOp .And (a :: b :: rest) pos) (mAndV ma mb) := ⟨fun W tk => PE.imp (pe_andT (ha.run W tk) (hb.run W tk)) fun σ H Q h => by
  obtain ⟨mp, st, ρ, R, E, P⟩ := tG_bind (Rel := Rv (gm X)) (m := ma) (k := fun ρ d st1 => match truD d st1 with | some true => mb ρ st1 | some false => .ok d st1 | none => .bad) h
  refine ⟨mp, st, ρ, R, E, P.mono fun x H1 ⟨mp1, st1, ρ1, d, R1, E1, r1, P1⟩ => ?_⟩
  cases e : truD d st1 with
  | none => simp only [e] at P1; exact P1.elim
  | some k =>
    simp only [e] at P1
    refine ⟨k, tru_of R1 r1 e, ?_⟩
    cases k with
    | true => exact ⟨mp1, st1, ρ1, R1, E1, P1⟩
    | false => exact P1 mp1 H1 _ (Ext.refl _ _) R1 r1⟩
theorem se_or {rest : List Expr} (ha : SE X a ma) (hb : SE X (.BoolOp .Or (b :: rest) pos) mb) : SE X (.BoolOp .Or (a :: b :: rest) pos) (mOrV ma mb) := ⟨fun W tk => PE.imp (pe_orT (ha.run W tk) (hb.run W tk)) fun σ H Q h => by
  obtain ⟨mp, st, ρ, R, E, P⟩ := tG_bind (Rel := Rv (gm X)) (m := ma) (k := fun ρ d st1 => match truD d st1 with | some true => .ok d st1 | some false => mb ρ st1 | none => .bad) h
  refine ⟨mp, st, ρ, R, E, P.mono fun x H1 ⟨mp1, st1, ρ1, d, R1, E1, r1, P1⟩ => ?_⟩
  cases e : truD d st1 with
  | none => simp only [e] at P1; exact P1.elim
  | some k =>
    simp only [e] at P1
    refine ⟨k, tru_of R1 r1 e, ?_⟩
    cases k with
    | false => exact ⟨mp1, st1, ρ1, R1, E1, P1⟩
    | true => exact P1 mp1 H1 _ (Ext.refl _ _) R1 r1⟩
/-- a if t else b -/
def mIf (t : MB) (m n : ME) : ME := fun ρ st => (t ρ st).bind fun b st1 => if b = true then m ρ st1 else n ρ st1
theorem se_if (hc : ST X c na) (ha : SE X a ma) (hb : SE X b mb) : SE X (.IfExp c a b pos) (mIf na ma mb) := ⟨fun W tk => PE.imp (pe_ifExp (hc.run W tk) (ha.run W tk) (hb.run W tk)) fun σ H Q h => by
  obtain ⟨mp, st, ρ, R, E, P⟩ := tG_bind (Rel := RB) (m := na) (k := fun ρ b st1 => if b = true then ma ρ st1 else mb ρ st1) h
  refine ⟨mp, st, ρ, R, E, P.mono fun x H1 ⟨mp1, st1, ρ1, d, R1, E1, r1, P1⟩ => ?_⟩
  cases r1
  cases x with
  | true => exact ⟨mp1, st1, ρ1, R1, E1, P1⟩
  | false => exact ⟨mp1, st1, ρ1, R1, E1, P1⟩⟩
/-- a < b < c -/
def mCh (f g : F2) (ma mb mc : ME) : ME := fun ρ st => (ma ρ st).bind fun x st1 => (mb ρ st1).bind fun y st2 => (f x y st2).bind fun z st3 => match z with
  | .bl true => (mc ρ st3).bind fun w st4 => g y w st4
  | .bl false => .ok (.bl false) st3
  | _ => .bad
theorem tChain_of {op op' : CmpOp} {r r' : R2} {f g : F2} {W : WX} {σ : L2.St} {H : Hp} {Q : VK} {Γ : Gm} (hf : Srv2 Γ f r) (hg : Srv2 Γ g r') (h : tE Γ W (mCh f g ma mb mc) σ H Q) :
    tChain r r' (tE Γ W ma) (tE Γ W mb) (tE Γ W mc) σ H Q := by
  obtain ⟨mp, st, ρ, R, E, P⟩ := tG_bind (Rel := Rv Γ) (m := ma) (k := fun ρ x st1 => (mb ρ st1).bind fun y st2 => (f x y st2).bind fun z st3 => match z with
    | .bl true => (mc ρ st3).bind fun w st4 => g y w st4
    | .bl false => .ok (.bl false) st3
    | _ => .bad) h
  refine ⟨mp, st, ρ, R, E, P.mono fun x H1 ⟨mp1, st1, ρ1, d, R1, E1, r1, P1⟩ => ?_⟩
  obtain ⟨mp2, st2, ρ2, R2, E2, P2⟩ := tG_bindK (Rel := Rv Γ) (m := mb) R1 E1 P1
  refine ⟨mp2, st2, ρ2, R2, E2, P2.mono fun y H2 ⟨mp3, st3, e, _, x3, R3, E3, r3, P3⟩ => ?_⟩
  refine hf mp3 H2 st3 d e x y _ (fun c d H' => W c d σ H') R3 (Rv.ext x3 _ _ r1) r3 ((PostG.bind (Rel := Rv Γ) P3).mono fun z H4 ⟨mp4, st4, zd, x4, R4, r4, P4⟩ => ?_)
  cases zd with
  | bl k =>
    simp only [Rv] at r4
    subst r4
    refine ⟨k, rfl, ?_⟩
    cases k with
    | true =>
      obtain ⟨mp5, st5, ρ5, R5, E5, P5⟩ := tG_bindK (Rel := Rv Γ) (m := mc) R4 (E3.ext x4) P4
      exact ⟨mp5, st5, ρ5, R5, E5, P5.mono fun w H6 ⟨mp6, st6, ww, _, x6, R6, E6, r6, P6⟩ => hg mp6 H6 st6 e ww y w _ _ R6 (Rv.ext (x4.trans x6) _ _ r3) r6 P6⟩
    | false => exact P4 mp4 H4 _ (Ext.refl _ _) R4 (by simp [Rv])
  | _ => exact P4.elim
end
end VI
set_option maxHeartbeats 4000000
namespace VI
open PySem PySem.Spec PyProof.Rows L2

abbrev LINE : Nat := 16777216
theorem line_le {n : Nat} (h : n ≤ LINE) : n ≤ sizeLine := by rw [sizeLine_eq]; exact h

section
variable {Γ : Gm} {mp : List Addr} {H : Hp} {st : Mem} {Q : VK} {W : XK}
/-- a new tuple, a new list -/
theorem post_tup {ds : List D} {vs : List V} (P : Post Γ mp H (.ok (.tup ds) st) Q W) (R : RelM Γ mp H st) (r : RvL Γ mp H ds vs) : ∀ p, H p = none → Q (.ref p) (upd H p (.tup vs)) := fun p hp =>
  P mp _ _ (ext_laid hp) (R.laid hp) (by simp only [Rv]; exact ⟨p, vs, rfl, ⟨upd_same, R.fresh hp⟩, RvL.ext (ext_laid hp) _ _ r⟩)
theorem post_lst {ds : List D} {vs : List V} (P : Post Γ mp H (.ok (.lst ds) st) Q W) (R : RelM Γ mp H st) (r : RvL Γ mp H ds vs) : ∀ p, H p = none → Q (.ref p) (upd H p (.lst vs)) := fun p hp =>
  P mp _ _ (ext_laid hp) (R.laid hp) (by simp only [Rv]; exact ⟨p, vs, rfl, ⟨upd_same, R.fresh hp⟩, RvL.ext (ext_laid hp) _ _ r⟩)
/-- a new cell -/
theorem post_cell {c : Cell} {o : HO} (P : Post Γ mp H (.ok (.loc st.length) (st ++ [c])) Q W) (R : RelM Γ mp H st)
    (hc : ∀ p, H p = none → RelC Γ (mp ++ [p]) (upd H p o) p c) : ∀ p, H p = none → Q (.ref p) (upd H p o) := fun p hp =>
  P (mp ++ [p]) _ _ (ext_cell hp) (R.push hp (hc p hp)) (by simp only [Rv]; exact ⟨p, rfl, by rw [← R.len]; simp⟩)
theorem post_here {d : D} {v : V} (P : Post Γ mp H (.ok d st) Q W) (R : RelM Γ mp H st) (r : Rv Γ mp H d v) : Q v H := P mp H v (Ext.refl _ _) R r
end

/-! ### reading lists and tuples -/
/-- the items of a list, a tuple that stands still -/
def seqD : D → Mem → Option (List D)
  | .tup xs, _ => some xs
  | .kt xs, _ => some xs
  | .lst xs, _ => some xs
  | .fz xs, _ => some xs
  | .loc n, st => match st[n]? with
    | some (.lst xs) => some xs
    | _ => none
  | _, _ => none
/-- .. of a list -/
def lstD : D → Mem → Option (List D)
  | .lst xs, _ => some xs
  | .fz xs, _ => some xs
  | .loc n, st => match st[n]? with
    | some (.lst xs) => some xs
    | _ => none
  | _, _ => none
/-- .. of a list of ours -/
def lstM : D → Mem → Option (List D)
  | .lst xs, _ => some xs
  | .loc n, st => match st[n]? with
    | some (.lst xs) => some xs
    | _ => none
  | _, _ => none
section
variable {Γ : Gm} {mp : List Addr} {H : Hp} {st : Mem} {d : D} {x : V} {xs : List D}
theorem lstD_of (R : RelM Γ mp H st) (h : Rv Γ mp H d x) (e : lstD d st = some xs) : ∃ a vs, x = .ref a ∧ SqL Γ.K H a vs ∧ RvL Γ mp H xs vs := by
  cases d with
  | lst ys => simp only [Rv, lstD, Option.some.injEq] at h e; subst e; obtain ⟨a, vs, rfl, q, r⟩ := h; exact ⟨a, vs, rfl, q.sq, r⟩
  | fz ys => simp only [Rv, lstD, Option.some.injEq] at h e; subst e; obtain ⟨a, vs, rfl, q, r⟩ := h; exact ⟨a, vs, rfl, q.sq, r⟩
  | loc n =>
    simp only [Rv, lstD] at h e
    obtain ⟨a, rfl, hm⟩ := h
    split at e
    · rename_i ys hs
      cases e
      obtain ⟨vs, q, r⟩ := R.cell n _ a hs hm
      exact ⟨a, vs, rfl, SqL.of q, r⟩
    · cases e
  | _ => simp [lstD] at e
theorem lstM_of (R : RelM Γ mp H st) (h : Rv Γ mp H d x) (e : lstM d st = some xs) : ∃ a vs, x = .ref a ∧ H a = some (.lst vs) ∧ RvL Γ mp H xs vs := by
  cases d with
  | lst ys => simp only [Rv, lstM, Option.some.injEq] at h e; subst e; obtain ⟨a, vs, rfl, q, r⟩ := h; exact ⟨a, vs, rfl, q.1, r⟩
  | loc n =>
    simp only [Rv, lstM] at h e
    obtain ⟨a, rfl, hm⟩ := h
    split at e
    · rename_i ys hs
      cases e
      obtain ⟨vs, q, r⟩ := R.cell n _ a hs hm
      exact ⟨a, vs, rfl, q, r⟩
    · cases e
  | _ => simp [lstM] at e
theorem seqD_of (R : RelM Γ mp H st) (h : Rv Γ mp H d x) (e : seqD d st = some xs) : ∃ a vs, x = .ref a ∧ (SqL Γ.K H a vs ∨ SqT Γ.K H a vs) ∧ RvL Γ mp H xs vs := by
  cases d with
  | tup ys => simp only [Rv, seqD, Option.some.injEq] at h e; subst e; obtain ⟨a, vs, rfl, q, r⟩ := h; exact ⟨a, vs, rfl, .inr q.sq, r⟩
  | kt ys => simp only [Rv, seqD, Option.some.injEq] at h e; subst e; obtain ⟨a, vs, rfl, q, r⟩ := h; exact ⟨a, vs, rfl, .inr q.sq, r⟩
  | lst ys => simp only [Rv, seqD, Option.some.injEq] at h e; subst e; obtain ⟨a, vs, rfl, q, r⟩ := h; exact ⟨a, vs, rfl, .inl q.sq, r⟩
  | fz ys => simp only [Rv, seqD, Option.some.injEq] at h e; subst e; obtain ⟨a, vs, rfl, q, r⟩ := h; exact ⟨a, vs, rfl, .inl q.sq, r⟩
  | loc n =>
    simp only [Rv, seqD] at h e
    obtain ⟨a, rfl, hm⟩ := h
    split at e
    · rename_i ys hs
      cases e
      obtain ⟨vs, q, r⟩ := R.cell n _ a hs hm
      exact ⟨a, vs, rfl, .inl (SqL.of q), r⟩
    · cases e
  | _ => simp [seqD] at e
end

/-! ### arithmetic -/
def addD : F2 := fun d e st => match d, e with
  | .int i, .int j => .ok (.int (i + j)) st
  | .str x, .str y => if x.length + y.length ≤ LINE then .ok (.str (x ++ y)) st else .bad
  | .tup xs, .tup ys => if xs.length + ys.length ≤ LINE then .ok (.tup (xs ++ ys)) st else .bad
  | d, e => match lstM d st, lstM e st with
    | some xs, some ys => if xs.length + ys.length ≤ LINE then .ok (.lst (xs ++ ys)) st else .bad
    | _, _ => .bad
def rAdd' (K : PySem.W.Frag) : R2 := fun x y H Q => ((∃ i j, x = .int i ∧ y = .int j ∧ Q (.int (i + j)) H) ∨ (∃ i j, x = .str i ∧ y = .str j ∧ i.length + j.length ≤ sizeLine ∧ Q (.str (i ++ j)) H)) ∨ (rCatA K x y H Q ∨ rCat x y H Q)
theorem op_add' {X : Cx} : OpR X (binaryOp .Add) (rAdd' X.K) := OpR.or (OpR.or op_add op_add_str) (OpR.or op_catA op_cat)
theorem srv_cat {Γ : Gm} {mp : List Addr} {H : Hp} {st : Mem} {d e : D} {x y : V} {Q : VK} {W : XK} (R : RelM Γ mp H st) (h1 : Rv Γ mp H d x) (h2 : Rv Γ mp H e y)
    (P : Post Γ mp H (match lstM d st, lstM e st with
      | some xs, some ys => if xs.length + ys.length ≤ LINE then .ok (.lst (xs ++ ys)) st else .bad
      | _, _ => .bad) Q W) : rCat x y H Q := by
  split at P
  · rename_i xs ys e1 e2
    obtain ⟨a, vs, rfl, ha, ra⟩ := lstM_of R h1 e1
    obtain ⟨b, us, rfl, hb, rb⟩ := lstM_of R h2 e2
    split at P
    · rename_i hl
      exact ⟨a, b, vs, us, rfl, rfl, ha, hb, line_le (by rw [← ra.length, ← rb.length]; exact hl), post_lst P R (ra.append rb)⟩
    · exact P.elim
  · exact P.elim
theorem srv_add {Γ : Gm} : Srv2 Γ addD (rAdd' Γ.K) := by
  intro mp H st d e x y Q W R h1 h2 P
  unfold addD at P
  split at P
  · simp only [Rv] at h1 h2; subst h1 h2
    exact .inl (.inl ⟨_, _, rfl, rfl, post_here P R (by simp [Rv])⟩)
  · simp only [Rv] at h1 h2; subst h1 h2
    split at P
    · rename_i hl
      exact .inl (.inr ⟨_, _, rfl, rfl, line_le hl, post_here P R (by simp [Rv])⟩)
    · exact P.elim
  · rename_i xs ys
    have h1' := h1
    have h2' := h2
    simp only [Rv] at h1 h2
    obtain ⟨a, vs, rfl, ha, ra⟩ := h1
    obtain ⟨b, us, rfl, hb, rb⟩ := h2
    split at P
    · rename_i hl
      refine .inr (.inl ⟨a, b, vs, us, rfl, rfl, ha.sq, hb.sq, line_le (by rw [← ra.length, ← rb.length]; exact hl), fun z => ?_, fun _ z => ?_, fun _ _ => post_tup P R (ra.append rb)⟩)
      · subst z
        have : xs = [] := List.eq_nil_of_length_eq_zero ra.length
        subst this
        exact post_here P R h2'
      · subst z
        have : ys = [] := List.eq_nil_of_length_eq_zero rb.length
        subst this
        rw [List.append_nil] at P
        exact post_here P R h1'
    · exact P.elim
  · exact .inr (.inr (srv_cat R h1 h2 P))
def subD : F2 := fun d e st => match d, e with
  | .int i, .int j => .ok (.int (i - j)) st
  | _, _ => .bad
theorem srv_sub {Γ : Gm} : Srv2 Γ subD (rI0 fun i j => .int (i - j)) := by
  intro mp H st d e x y Q W R h1 h2 P
  unfold subD at P
  split at P
  · simp only [Rv] at h1 h2; subst h1 h2
    exact ⟨_, _, rfl, rfl, post_here P R (by simp [Rv])⟩
  · exact P.elim
/-- below 2 ^ 64 in size -/
def small64 (i : Int) : Bool := decide (-18446744073709551616 < i) && decide (i < 18446744073709551616)
def rMul' (K : PySem.W.Frag) : R2 := fun x y H Q => rI CMul (fun i j => .int (i * j)) x y H Q ∨ (rRep x y H Q ∨ rRepT K x y H Q)
theorem op_mul' {X : Cx} : OpR X (binaryOp .Mult) (rMul' X.K) := OpR.or op_mul (OpR.or op_rep op_repT)
/-- list * int: frozen -/
def repD (mk : List D → Mem → Res D) (d : D) (k : Int) (st : Mem) : Res D := match d with
  | .tup xs => if xs.isEmpty = false ∧ 2 ≤ k ∧ k ≤ 1000 ∧ xs.length ≤ 1000 then .ok (.tup (List.replicate k.toNat xs).flatten) st else .bad
  | d => match lstM d st with
    | some xs => if -1000 ≤ k ∧ k ≤ 1000 ∧ xs.length ≤ 1000 then mk (List.replicate k.toNat xs).flatten st else .bad
    | none => .bad
def mkF (xs : List D) (st : Mem) : Res D := .ok (.lst xs) st
def mkN (xs : List D) (st : Mem) : Res D := .ok (.loc st.length) (st ++ [.lst xs])
def mulD (mk : List D → Mem → Res D) : F2 := fun d e st => match d, e with
  | .int i, .int j => if small64 i || small64 j then .ok (.int (i * j)) st else .bad
  | d, .int k => repD mk d k st
  | _, _ => .bad
/-- what a maker of lists must bear -/
def MkOk (mk : List D → Mem → Res D) : Prop := ∀ (Γ : Gm) (mp : List Addr) (H : Hp) (st : Mem) (Q : VK) (W : XK) (ds : List D) (vs : List V),
  RelM Γ mp H st → RvL Γ mp H ds vs → Post Γ mp H (mk ds st) Q W → ∀ p, H p = none → Q (.ref p) (upd H p (.lst vs))
theorem mkF_ok : MkOk mkF := fun Γ mp H st Q W ds vs R r P => post_lst P R r
theorem mkN_ok : MkOk mkN := fun Γ mp H st Q W ds vs R r P => post_cell P R fun p hp => ⟨vs, upd_same, RvL.ext (ext_cell hp) _ _ r⟩
theorem RvL.rep {Γ : Gm} {mp : List Addr} {H : Hp} {ds : List D} {vs : List V} (r : RvL Γ mp H ds vs) : ∀ n : Nat, RvL Γ mp H (List.replicate n ds).flatten (List.replicate n vs).flatten
  | 0 => RvL.nil
  | n + 1 => by simp only [List.replicate_succ, List.flatten_cons]; exact r.append (RvL.rep r n)
theorem small64_ok {i : Int} (h : small64 i = true) : -(2 ^ 64) < i ∧ i < 2 ^ 64 := by
  simp only [small64, Bool.and_eq_true, decide_eq_true_eq] at h
  exact ⟨by omega, by omega⟩
theorem srv_mul {Γ : Gm} {mk : List D → Mem → Res D} (hk : MkOk mk) : Srv2 Γ (mulD mk) (rMul' Γ.K) := by
  intro mp H st d e x y Q W R h1 h2 P
  unfold mulD at P
  split at P
  · simp only [Rv] at h1 h2; subst h1 h2
    split at P
    · rename_i hs
      refine .inl ⟨_, _, rfl, rfl, ?_, post_here P R (by simp [Rv])⟩
      rcases Bool.or_eq_true _ _ |>.mp hs with z | z
      · exact .inl (small64_ok z)
      · exact .inr (small64_ok z)
    · exact P.elim
  · rename_i k _
    have e2 := h2
    simp only [Rv] at e2
    subst e2
    unfold repD at P
    split at P
    · rename_i xs _
      simp only [Rv] at h1
      obtain ⟨a, vs, rfl, ha, ra⟩ := h1
      split at P
      · rename_i hc
        refine .inr (.inr ⟨a, k, vs, rfl, rfl, ha.sq, fun z => ?_, hc.2.1, hc.2.2.1, by rw [← ra.length]; exact hc.2.2.2, post_tup P R (ra.rep _)⟩)
        subst z
        have : xs = [] := List.eq_nil_of_length_eq_zero ra.length
        subst this
        simp at hc
      · exact P.elim
    · split at P
      · rename_i xs e1
        obtain ⟨a, vs, rfl, ha, ra⟩ := lstM_of R h1 e1
        split at P
        · rename_i hc
          refine .inr (.inl ⟨a, k, vs, rfl, rfl, ha, by omega, by omega, ?_, hk Γ mp H st Q W _ _ R (ra.rep _) P⟩)
          rw [sizeLine_eq, ← ra.length]
          have : xs.length * k.toNat ≤ 1000 * 1000 := Nat.mul_le_mul hc.2.2 (by omega)
          omega
        · exact P.elim
      · exact P.elim
  · exact P.elim
def fdivD : F2 := fun d e st => match d, e with
  | .int i, .int j => if 0 < j ∧ j < 1073741824 then .ok (.int (i / j)) st else .bad
  | _, _ => .bad
theorem srv_fdiv {Γ : Gm} : Srv2 Γ fdivD (rI CDiv fun i j => .int (i / j)) := by
  intro mp H st d e x y Q W R h1 h2 P
  unfold fdivD at P
  split at P
  · simp only [Rv] at h1 h2; subst h1 h2
    split at P
    · rename_i hc
      exact ⟨_, _, rfl, rfl, hc, post_here P R (by simp [Rv])⟩
    · exact P.elim
  · exact P.elim
def modD : F2 := fun d e st => match d, e with
  | .int i, .int j => if 0 < j then .ok (.int (i % j)) st else .bad
  | _, _ => .bad
theorem srv_mod {Γ : Gm} : Srv2 Γ modD (rI (fun _ j => 0 < j) fun i j => .int (i % j)) := by
  intro mp H st d e x y Q W R h1 h2 P
  unfold modD at P
  split at P
  · simp only [Rv] at h1 h2; subst h1 h2
    split at P
    · rename_i hc
      exact ⟨_, _, rfl, rfl, hc, post_here P R (by simp [Rv])⟩
    · exact P.elim
  · exact P.elim
def powD : F2 := fun d e st => match d, e with
  | .int i, .int j => if 0 ≤ j ∧ j ≤ 1000 ∧ small64 i = true then .ok (.int (i ^ j.toNat)) st else .bad
  | _, _ => .bad
theorem srv_pow {Γ : Gm} : Srv2 Γ powD (rI CPow fun i j => .int (i ^ j.toNat)) := by
  intro mp H st d e x y Q W R h1 h2 P
  unfold powD at P
  split at P
  · simp only [Rv] at h1 h2; subst h1 h2
    split at P
    · rename_i hc
      have := small64_ok hc.2.2
      exact ⟨_, _, rfl, rfl, ⟨hc.1, by omega, by omega⟩, post_here P R (by simp [Rv])⟩
    · exact P.elim
  · exact P.elim
def negD : F1 := fun d st => match d with
  | .int i => .ok (.int (-i)) st
  | _ => .bad
theorem srv_neg {Γ : Gm} : Srv1 Γ negD (rU fun i => .int (-i)) := by
  intro mp H st d x Q W R h1 P
  unfold negD at P
  split at P
  · simp only [Rv] at h1; subst h1
    exact ⟨_, rfl, post_here P R (by simp [Rv])⟩
  · exact P.elim

/-! ### data: ==, != -/
mutual
def toPy : D → Option PyData
  | .non => some .none
  | .bl b => some (.bool b)
  | .int i => some (.int i)
  | .str x => some (.str x)
  | .tup xs => (toPyL xs).map .tuple
  | .lst xs => (toPyL xs).map .list
  | .fz xs => (toPyL xs).map .list
  | .kt xs => (toPyL xs).map .tuple
  | _ => none
def toPyL : List D → Option (List PyData)
  | [] => some []
  | d :: ds => match toPy d, toPyL ds with
    | some p, some ps => some (p :: ps)
    | _, _ => none
end
mutual
theorem dp_of {Γ : Gm} {mp : List Addr} {H : Hp} : ∀ (d : D) (x : V) (p : PyData), Rv Γ mp H d x → toPy d = some p → Dp Γ.K H x p
  | .non, x, p, h, e => by simp only [Rv, toPy, Option.some.injEq] at h e; subst h e; exact .non
  | .bl b, x, p, h, e => by simp only [Rv, toPy, Option.some.injEq] at h e; subst h e; exact .bl b
  | .int b, x, p, h, e => by simp only [Rv, toPy, Option.some.injEq] at h e; subst h e; exact .int b
  | .str b, x, p, h, e => by simp only [Rv, toPy, Option.some.injEq] at h e; subst h e; exact .str b
  | .tup xs, x, p, h, e => by
    simp only [Rv, toPy, Option.map_eq_some_iff] at h e
    obtain ⟨a, vs, rfl, q, r⟩ := h
    obtain ⟨ps, e, rfl⟩ := e
    exact .tup q.sq (dpL_of xs vs ps r e)
  | .lst xs, x, p, h, e => by
    simp only [Rv, toPy, Option.map_eq_some_iff] at h e
    obtain ⟨a, vs, rfl, q, r⟩ := h
    obtain ⟨ps, e, rfl⟩ := e
    exact .lst q.sq (dpL_of xs vs ps r e)
  | .kt xs, x, p, h, e => by
    simp only [Rv, toPy, Option.map_eq_some_iff] at h e
    obtain ⟨a, vs, rfl, q, r⟩ := h
    obtain ⟨ps, e, rfl⟩ := e
    exact .tup q.sq (dpL_of xs vs ps r e)
  | .fz xs, x, p, h, e => by
    simp only [Rv, toPy, Option.map_eq_some_iff] at h e
    obtain ⟨a, vs, rfl, q, r⟩ := h
    obtain ⟨ps, e, rfl⟩ := e
    exact .lst q.sq (dpL_of xs vs ps r e)
  | .dct _ _, x, p, h, e => by simp [toPy] at e
  | .loc _, x, p, h, e => by simp [toPy] at e
  | .gl _, x, p, h, e => by simp [toPy] at e
theorem dpL_of {Γ : Gm} {mp : List Addr} {H : Hp} : ∀ (ds : List D) (vs : List V) (ps : List PyData), RvL Γ mp H ds vs → toPyL ds = some ps → DpAll Γ.K H vs ps
  | [], vs, ps, h, e => by simp only [RvL, toPyL, Option.some.injEq] at h e; subst h e; exact .nil
  | d :: ds, vs, ps, h, e => by
    simp only [RvL, toPyL] at h e
    obtain ⟨v, r, rfl, h2, h3⟩ := h
    split at e
    · rename_i p qs e1 e2
      cases e
      exact .cons (dp_of d v p h2 e1) (dpL_of ds r qs h3 e2)
    · cases e
end
/-- a list's cell looked into -/
def topD (d : D) (st : Mem) : D := match d with
  | .loc n => match st[n]? with
    | some (.lst xs) => .lst xs
    | _ => d
  | d => d
theorem top_dp {Γ : Gm} {mp : List Addr} {H : Hp} {st : Mem} {d : D} {x : V} {p : PyData} (R : RelM Γ mp H st) (h : Rv Γ mp H d x) (e : toPy (topD d st) = some p) : Dp Γ.K H x p := by
  unfold topD at e
  split at e
  · rename_i n
    simp only [Rv] at h
    obtain ⟨a, rfl, hm⟩ := h
    split at e
    · rename_i xs hs
      obtain ⟨vs, q, r⟩ := R.cell n _ a hs hm
      simp only [toPy, Option.map_eq_some_iff] at e
      obtain ⟨ps, e, rfl⟩ := e
      exact .lst (SqL.of q) (dpL_of xs vs ps r e)
    · simp [toPy] at e
  · exact dp_of _ _ _ h e
mutual
/-- data of depth below n, whose texts are of code points -/
def okD : Nat → D → Bool
  | _, .non => true
  | _, .bl _ => true
  | _, .int _ => true
  | _, .str x => x.cps.all (· < 1114112)
  | 0, _ => false
  | n + 1, .tup xs => okDL n xs
  | n + 1, .lst xs => okDL n xs
  | n + 1, .fz xs => okDL n xs
  | n + 1, .kt xs => okDL n xs
  | _, _ => false
def okDL : Nat → List D → Bool
  | _, [] => true
  | n, d :: ds => okD n d && okDL n ds
end
mutual
theorem okD_py : ∀ (d : D) (n : Nat), okD n d = true → ∃ p, toPy d = some p ∧ p.canLay0 = true ∧ p.depth ≤ n
  | .non, n, _ => ⟨.none, rfl, rfl, by simp [PyData.depth]⟩
  | .bl b, n, _ => ⟨.bool b, rfl, rfl, by simp [PyData.depth]⟩
  | .int b, n, _ => ⟨.int b, rfl, rfl, by simp [PyData.depth]⟩
  | .str b, n, h => ⟨.str b, rfl, by
    have h' : b.cps.all (· < 1114112) = true := by cases n <;> simpa only [okD] using h
    simpa only [PyData.canLay0, PyData.strOk] using h', by simp [PyData.depth]⟩
  | .tup xs, 0, h => by simp [okD] at h
  | .lst xs, 0, h => by simp [okD] at h
  | .fz xs, 0, h => by simp [okD] at h
  | .kt xs, 0, h => by simp [okD] at h
  | .kt xs, n + 1, h => by
    simp only [okD] at h
    obtain ⟨ps, e, c, l⟩ := okDL_py xs n h
    exact ⟨.tuple ps, by simp [toPy, e], by simpa [PyData.canLay0] using c, by simp only [PyData.depth]; omega⟩
  | .tup xs, n + 1, h => by
    simp only [okD] at h
    obtain ⟨ps, e, c, l⟩ := okDL_py xs n h
    exact ⟨.tuple ps, by simp [toPy, e], by simpa [PyData.canLay0] using c, by simp only [PyData.depth]; omega⟩
  | .lst xs, n + 1, h => by
    simp only [okD] at h
    obtain ⟨ps, e, c, l⟩ := okDL_py xs n h
    exact ⟨.list ps, by simp [toPy, e], by simpa [PyData.canLay0] using c, by simp only [PyData.depth]; omega⟩
  | .fz xs, n + 1, h => by
    simp only [okD] at h
    obtain ⟨ps, e, c, l⟩ := okDL_py xs n h
    exact ⟨.list ps, by simp [toPy, e], by simpa [PyData.canLay0] using c, by simp only [PyData.depth]; omega⟩
  | .dct _ _, n, h => by cases n <;> simp [okD] at h
  | .loc _, n, h => by cases n <;> simp [okD] at h
  | .gl _, n, h => by cases n <;> simp [okD] at h
theorem okDL_py : ∀ (ds : List D) (n : Nat), okDL n ds = true → ∃ ps, toPyL ds = some ps ∧ PyData.canLayAll0 ps = true ∧ PyData.depthAll ps ≤ n
  | [], n, _ => ⟨[], rfl, rfl, by simp [PyData.depthAll]⟩
  | d :: ds, n, h => by
    simp only [okDL, Bool.and_eq_true] at h
    obtain ⟨p, e1, c1, l1⟩ := okD_py d n h.1
    obtain ⟨ps, e2, c2, l2⟩ := okDL_py ds n h.2
    exact ⟨p :: ps, by simp [toPyL, e1, e2], by simp [PyData.canLayAll0, c1, c2], by simp only [PyData.depthAll]; omega⟩
end
mutual
/-- == of data -/
def eqvD : D → D → Bool
  | .non, .non => true
  | .bl a, .bl b => a == b
  | .bl a, .int j => (if a then 1 else 0) == j
  | .int i, .bl b => i == (if b then 1 else 0)
  | .int i, .int j => i == j
  | .str x, .str y => x == y
  | .lst xs, .lst ys => eqvL xs ys
  | .lst xs, .fz ys => eqvL xs ys
  | .fz xs, .lst ys => eqvL xs ys
  | .fz xs, .fz ys => eqvL xs ys
  | .tup xs, .tup ys => eqvL xs ys
  | .tup xs, .kt ys => eqvL xs ys
  | .kt xs, .tup ys => eqvL xs ys
  | .kt xs, .kt ys => eqvL xs ys
  | _, _ => false
def eqvL : List D → List D → Bool
  | [], [] => true
  | x :: xs, y :: ys => eqvD x y && eqvL xs ys
  | _, _ => false
end
mutual
theorem eqvD_py : ∀ (d e : D) (p q : PyData), toPy d = some p → toPy e = some q → PyData.eqv p q = eqvD d e
  | .non, e, p, q, h1, h2 => by
    simp only [toPy, Option.some.injEq] at h1; subst h1
    cases e <;> simp only [toPy, Option.some.injEq, Option.map_eq_some_iff, reduceCtorEq] at h2 <;> first | (subst h2; simp [PyData.eqv, eqvD]) | (obtain ⟨_, _, rfl⟩ := h2; simp [PyData.eqv, eqvD])
  | .bl b, e, p, q, h1, h2 => by
    simp only [toPy, Option.some.injEq] at h1; subst h1
    cases e <;> simp only [toPy, Option.some.injEq, Option.map_eq_some_iff, reduceCtorEq] at h2 <;> first | (subst h2; simp [PyData.eqv, eqvD]) | (obtain ⟨_, _, rfl⟩ := h2; simp [PyData.eqv, eqvD])
  | .int b, e, p, q, h1, h2 => by
    simp only [toPy, Option.some.injEq] at h1; subst h1
    cases e <;> simp only [toPy, Option.some.injEq, Option.map_eq_some_iff, reduceCtorEq] at h2 <;> first | (subst h2; simp [PyData.eqv, eqvD]) | (obtain ⟨_, _, rfl⟩ := h2; simp [PyData.eqv, eqvD])
  | .str b, e, p, q, h1, h2 => by
    simp only [toPy, Option.some.injEq] at h1; subst h1
    cases e <;> simp only [toPy, Option.some.injEq, Option.map_eq_some_iff, reduceCtorEq] at h2 <;> first | (subst h2; simp [PyData.eqv, eqvD]) | (obtain ⟨_, _, rfl⟩ := h2; simp [PyData.eqv, eqvD])
  | .tup xs, e, p, q, h1, h2 => by
    simp only [toPy, Option.map_eq_some_iff] at h1
    obtain ⟨ps, h1, rfl⟩ := h1
    cases e with
    | tup ys =>
      simp only [toPy, Option.map_eq_some_iff] at h2
      obtain ⟨qs, h2, rfl⟩ := h2
      simp only [PyData.eqv, eqvD]
      exact eqvL_py xs ys ps qs h1 h2
    | kt ys =>
      simp only [toPy, Option.map_eq_some_iff] at h2
      obtain ⟨qs, h2, rfl⟩ := h2
      simp only [PyData.eqv, eqvD]
      exact eqvL_py xs ys ps qs h1 h2
    | _ => simp only [toPy, Option.some.injEq, Option.map_eq_some_iff, reduceCtorEq] at h2 <;> first | (subst h2; simp [PyData.eqv, eqvD]) | (obtain ⟨_, _, rfl⟩ := h2; simp [PyData.eqv, eqvD])
  | .kt xs, e, p, q, h1, h2 => by
    simp only [toPy, Option.map_eq_some_iff] at h1
    obtain ⟨ps, h1, rfl⟩ := h1
    cases e with
    | tup ys =>
      simp only [toPy, Option.map_eq_some_iff] at h2
      obtain ⟨qs, h2, rfl⟩ := h2
      simp only [PyData.eqv, eqvD]
      exact eqvL_py xs ys ps qs h1 h2
    | kt ys =>
      simp only [toPy, Option.map_eq_some_iff] at h2
      obtain ⟨qs, h2, rfl⟩ := h2
      simp only [PyData.eqv, eqvD]
      exact eqvL_py xs ys ps qs h1 h2
    | _ => simp only [toPy, Option.some.injEq, Option.map_eq_some_iff, reduceCtorEq] at h2 <;> first | (subst h2; simp [PyData.eqv, eqvD]) | (obtain ⟨_, _, rfl⟩ := h2; simp [PyData.eqv, eqvD])
  | .lst xs, e, p, q, h1, h2 => by
    simp only [toPy, Option.map_eq_some_iff] at h1
    obtain ⟨ps, h1, rfl⟩ := h1
    cases e with
    | lst ys =>
      simp only [toPy, Option.map_eq_some_iff] at h2
      obtain ⟨qs, h2, rfl⟩ := h2
      simp only [PyData.eqv, eqvD]
      exact eqvL_py xs ys ps qs h1 h2
    | fz ys =>
      simp only [toPy, Option.map_eq_some_iff] at h2
      obtain ⟨qs, h2, rfl⟩ := h2
      simp only [PyData.eqv, eqvD]
      exact eqvL_py xs ys ps qs h1 h2
    | _ => simp only [toPy, Option.some.injEq, Option.map_eq_some_iff, reduceCtorEq] at h2 <;> first | (subst h2; simp [PyData.eqv, eqvD]) | (obtain ⟨_, _, rfl⟩ := h2; simp [PyData.eqv, eqvD])
  | .fz xs, e, p, q, h1, h2 => by
    simp only [toPy, Option.map_eq_some_iff] at h1
    obtain ⟨ps, h1, rfl⟩ := h1
    cases e with
    | lst ys =>
      simp only [toPy, Option.map_eq_some_iff] at h2
      obtain ⟨qs, h2, rfl⟩ := h2
      simp only [PyData.eqv, eqvD]
      exact eqvL_py xs ys ps qs h1 h2
    | fz ys =>
      simp only [toPy, Option.map_eq_some_iff] at h2
      obtain ⟨qs, h2, rfl⟩ := h2
      simp only [PyData.eqv, eqvD]
      exact eqvL_py xs ys ps qs h1 h2
    | _ => simp only [toPy, Option.some.injEq, Option.map_eq_some_iff, reduceCtorEq] at h2 <;> first | (subst h2; simp [PyData.eqv, eqvD]) | (obtain ⟨_, _, rfl⟩ := h2; simp [PyData.eqv, eqvD])
  | .dct _ _, e, p, q, h1, h2 => by simp [toPy] at h1
  | .loc _, e, p, q, h1, h2 => by simp [toPy] at h1
  | .gl _, e, p, q, h1, h2 => by simp [toPy] at h1
theorem eqvL_py : ∀ (ds es : List D) (ps qs : List PyData), toPyL ds = some ps → toPyL es = some qs → PyData.eqvAll ps qs = eqvL ds es
  | [], [], ps, qs, h1, h2 => by simp only [toPyL, Option.some.injEq] at h1 h2; subst h1 h2; rfl
  | [], e :: es, ps, qs, h1, h2 => by
    simp only [toPyL, Option.some.injEq] at h1 h2; subst h1
    split at h2
    · cases h2; rfl
    · cases h2
  | d :: ds, [], ps, qs, h1, h2 => by
    simp only [toPyL, Option.some.injEq] at h1 h2; subst h2
    split at h1
    · cases h1; rfl
    · cases h1
  | d :: ds, e :: es, ps, qs, h1, h2 => by
    simp only [toPyL] at h1 h2
    split at h1
    · rename_i p ps' e1 e2
      cases h1
      split at h2
      · rename_i q qs' f1 f2
        cases h2
        simp only [PyData.eqvAll, eqvL]
        rw [eqvD_py d e p q e1 f1, eqvL_py ds es ps' qs' e2 f2]
      · cases h2
    · cases h1
end
def eqD : F2 := fun d e st => match d, e with
  | .str x, .str y => .ok (.bl (x == y)) st
  | d, e => if okD 12 (topD d st) = true ∧ okD 12 (topD e st) = true then .ok (.bl (eqvD (topD d st) (topD e st))) st else .bad
def neD : F2 := fun d e st => match d, e with
  | .str x, .str y => .ok (.bl (!(x == y))) st
  | d, e => if okD 12 (topD d st) = true ∧ okD 12 (topD e st) = true then .ok (.bl (!eqvD (topD d st) (topD e st))) st else .bad
def rEq' (K : PySem.W.Frag) : R2 := fun x y H Q => rEq x y H Q ∨ rEqD K x y H Q
def rNe' (K : PySem.W.Frag) : R2 := fun x y H Q => rNe x y H Q ∨ rNeD K x y H Q
theorem shaped_of {p : PyData} {n : Nat} (h1 : p.canLay0 = true) (h2 : p.depth ≤ n) (h3 : n ≤ 64) : SeqAt.shaped p = true := by
  unfold SeqAt.shaped
  rw [h1, decide_eq_true (show p.depth ≤ 64 by omega)]; rfl
theorem srv_eq {Γ : Gm} : Srv2 Γ eqD (rEq' Γ.K) := by
  intro mp H st d e x y Q W R h1 h2 P
  unfold eqD at P
  split at P
  · simp only [Rv] at h1 h2; subst h1 h2
    exact .inl ⟨rfl, post_here P R (by simp only [Rv]; rw [dec_str])⟩
  · split at P
    · rename_i hc
      obtain ⟨p, e1, c1, l1⟩ := okD_py _ _ hc.1
      obtain ⟨q, e2, c2, l2⟩ := okD_py _ _ hc.2
      exact .inr ⟨p, q, top_dp R h1 e1, top_dp R h2 e2, shaped_of c1 l1 (by decide), shaped_of c2 l2 (by decide), post_here P R (by simp [Rv, eqvD_py _ _ _ _ e1 e2])⟩
    · exact P.elim
theorem srv_ne {Γ : Gm} : Srv2 Γ neD (rNe' Γ.K) := by
  intro mp H st d e x y Q W R h1 h2 P
  unfold neD at P
  split at P
  · simp only [Rv] at h1 h2; subst h1 h2
    exact .inl ⟨rfl, post_here P R (by simp only [Rv]; rw [dec_str])⟩
  · split at P
    · rename_i hc
      obtain ⟨p, e1, c1, l1⟩ := okD_py _ _ hc.1
      obtain ⟨q, e2, c2, l2⟩ := okD_py _ _ hc.2
      exact .inr ⟨p, q, top_dp R h1 e1, top_dp R h2 e2, shaped_of c1 l1 (by decide), shaped_of c2 l2 (by decide), post_here P R (by simp [Rv, eqvD_py _ _ _ _ e1 e2])⟩
    · exact P.elim
/-- is None -/
def isNonD : D → Bool
  | .non => true
  | _ => false
theorem isNon_of {Γ : Gm} {mp : List Addr} {H : Hp} {d : D} {x : V} (h : Rv Γ mp H d x) : decide (x = .non) = isNonD d := by
  cases d <;> simp only [Rv] at h <;> first | (subst h; rfl) | (obtain ⟨a, vs, rfl, _⟩ := h; rfl) | (obtain ⟨a, rfl, _⟩ := h; rfl)
def isD : F2 := fun d e st => match d, e with
  | d, .non => .ok (.bl (isNonD d)) st
  | .bl a, .bl b => .ok (.bl (a == b)) st
  | _, _ => .bad
def isnotD : F2 := fun d e st => match d, e with
  | d, .non => .ok (.bl (!isNonD d)) st
  | .bl a, .bl b => .ok (.bl (!(a == b))) st
  | _, _ => .bad
def rIs' : R2 := fun x y H Q => (y = .non ∧ Q (.bl (decide (x = .non))) H) ∨ (∃ a b, x = .bl a ∧ y = .bl b ∧ Q (.bl (decide (a = b))) H)
def rIsnot' : R2 := fun x y H Q => (y = .non ∧ Q (.bl (!decide (x = .non))) H) ∨ (∃ a b, x = .bl a ∧ y = .bl b ∧ Q (.bl (!decide (a = b))) H)
theorem op_is' {X : Cx} : OpR X (compareOp .Is) rIs' := OpR.or op_isN op_is_bl
theorem op_isnot' {X : Cx} : OpR X (compareOp .IsNot) rIsnot' := OpR.or op_notN op_isnot_bl
theorem dec_beq (a b : Bool) : decide (a = b) = (a == b) := by cases a <;> cases b <;> rfl
theorem srv_is {Γ : Gm} : Srv2 Γ isD rIs' := by
  intro mp H st d e x y Q W R h1 h2 P
  unfold isD at P
  split at P
  · simp only [Rv] at h2; subst h2
    exact .inl ⟨rfl, post_here P R (by simp [Rv, isNon_of h1])⟩
  · simp only [Rv] at h1 h2; subst h1 h2
    exact .inr ⟨_, _, rfl, rfl, post_here P R (by simp [Rv, dec_beq])⟩
  · exact P.elim
theorem srv_isnot {Γ : Gm} : Srv2 Γ isnotD rIsnot' := by
  intro mp H st d e x y Q W R h1 h2 P
  unfold isnotD at P
  split at P
  · simp only [Rv] at h2; subst h2
    exact .inl ⟨rfl, post_here P R (by simp [Rv, isNon_of h1])⟩
  · simp only [Rv] at h1 h2; subst h1 h2
    exact .inr ⟨_, _, rfl, rfl, post_here P R (by simp [Rv, dec_beq])⟩
  · exact P.elim
end VI
set_option maxHeartbeats 4000000
namespace VI
open PySem PySem.Spec PyProof.Rows L2

structure XR (k : Nat) (X : Cx) : Prop where
  room : Room k X.A
  gd : X.A.guards = some []
theorem XR.mono {j k : Nat} {X : Cx} (r : XR k X) (h : j ≤ k := by decide) : XR j X := ⟨r.room.mono h, r.gd⟩

/-! ### order -/
def intsD : List D → Option (List Int)
  | [] => some []
  | .int i :: ds => (intsD ds).map (i :: ·)
  | _ :: _ => none
theorem ints_of {Γ : Gm} {mp : List Addr} {H : Hp} : ∀ {ds : List D} {ns : List Int} {vs : List V}, RvL Γ mp H ds vs → intsD ds = some ns → vs = ns.map V.int
  | [], ns, vs, h, e => by simp only [RvL, intsD, Option.some.injEq] at h e; subst h e; rfl
  | .int i :: ds, ns, vs, h, e => by
    simp only [RvL, Rv, intsD, Option.map_eq_some_iff] at h e
    obtain ⟨v, r, rfl, rfl, h3⟩ := h
    obtain ⟨ms, e, rfl⟩ := e
    rw [ints_of h3 e]; rfl
  | .non :: _, _, _, _, e | .bl _ :: _, _, _, _, e | .str _ :: _, _, _, _, e | .tup _ :: _, _, _, _, e | .lst _ :: _, _, _, _, e | .dct _ _ :: _, _, _, _, e | .loc _ :: _, _, _, _, e | .gl _ :: _, _, _, _, e | .fz _ :: _, _, _, _, e | .kt _ :: _, _, _, _, e => by simp [intsD] at e
theorem RvL.ints {Γ : Gm} {mp : List Addr} {H : Hp} : ∀ ns : List Int, RvL Γ mp H (ns.map D.int) (ns.map V.int)
  | [] => RvL.nil
  | n :: ns => RvL.cons (by simp [Rv]) (RvL.ints ns)
@[simp] theorem intsD_map (ns : List Int) : intsD (ns.map D.int) = some ns := by
  induction ns with
  | nil => rfl
  | cons n ns ih => simp [intsD, ih]
/-- < of two tuples of ints -/
def tltD (xs ys : List D) : Option Bool := match intsD xs, intsD ys with
  | some ns, some ms => some (HT.lexLt ns ms)
  | _, _ => none
def ltD : F2 := fun d e st => match d, e with
  | .int i, .int j => .ok (.bl (decide (i < j))) st
  | .tup xs, .tup ys => match tltD xs ys with
    | some b => .ok (.bl b) st
    | none => .bad
  | _, _ => .bad
def leD : F2 := fun d e st => match d, e with
  | .int i, .int j => .ok (.bl (decide (i ≤ j))) st
  | _, _ => .bad
def gtD : F2 := fun d e st => match d, e with
  | .int i, .int j => .ok (.bl (decide (j < i))) st
  | _, _ => .bad
def geD : F2 := fun d e st => match d, e with
  | .int i, .int j => .ok (.bl (decide (j ≤ i))) st
  | _, _ => .bad
def rLt' (K : PySem.W.Frag) : R2 := fun x y H Q => rI0 (fun i j => .bl (decide (i < j))) x y H Q ∨ rLtT K x y H Q
theorem op_lt' {X : Cx} {k : Nat} (r : XR k X) : OpR X (compareOp .Lt) (rLt' X.K) := OpR.or op_lt (op_ltT r.room.units0)
theorem srv_lt {Γ : Gm} : Srv2 Γ ltD (rLt' Γ.K) := by
  intro mp H st d e x y Q W R h1 h2 P
  unfold ltD at P
  split at P
  · simp only [Rv] at h1 h2; subst h1 h2
    exact .inl ⟨_, _, rfl, rfl, post_here P R (by simp [Rv])⟩
  · simp only [Rv] at h1 h2
    obtain ⟨a, vs, rfl, ha, ra⟩ := h1
    obtain ⟨b, us, rfl, hb, rb⟩ := h2
    unfold tltD at P
    split at P
    · rename_i b' he
      split at he
      · rename_i ns ms e1 e2
        cases he
        have f1 := ints_of ra e1
        have f2 := ints_of rb e2
        subst f1 f2
        exact .inr ⟨a, b, ns, ms, rfl, rfl, ha.sq, hb.sq, post_here P R (by simp [Rv])⟩
      · cases he
    · exact P.elim
  · exact P.elim
theorem srv_cmpI {Γ : Gm} {f : F2} {p : Int → Int → Bool} (hf : ∀ d e st, f d e st = (match d, e with | .int i, .int j => .ok (.bl (p i j)) st | _, _ => .bad)) : Srv2 Γ f (rI0 fun i j => .bl (p i j)) := by
  intro mp H st d e x y Q W R h1 h2 P
  rw [hf] at P
  split at P
  · simp only [Rv] at h1 h2; subst h1 h2
    exact ⟨_, _, rfl, rfl, post_here P R (by simp [Rv])⟩
  · exact P.elim
theorem srv_le {Γ : Gm} : Srv2 Γ leD (rI0 fun i j => .bl (decide (i ≤ j))) := srv_cmpI fun _ _ _ => rfl
theorem srv_gt {Γ : Gm} : Srv2 Γ gtD (rI0 fun i j => .bl (decide (j < i))) := srv_cmpI fun _ _ _ => rfl
theorem srv_ge {Γ : Gm} : Srv2 Γ geD (rI0 fun i j => .bl (decide (j ≤ i))) := srv_cmpI fun _ _ _ => rfl

/-! ### dicts: keys -/
def keyD : D → Option Key
  | .int i => some (.inl i)
  | .str x => some (.inr x)
  | _ => none
def keysD : List D → Option (List Key)
  | [] => some []
  | d :: ds => match keyD d, keysD ds with
    | some k, some ks => some (k :: ks)
    | _, _ => none
theorem key_of {Γ : Gm} {mp : List Addr} {H : Hp} {d : D} {x : V} {k : Key} (h : Rv Γ mp H d x) (e : keyD d = some k) : x = kV k := by
  cases d with
  | int i => simp only [Rv, keyD, Option.some.injEq] at h e; subst h e; rfl
  | str i => simp only [Rv, keyD, Option.some.injEq] at h e; subst h e; rfl
  | _ => simp [keyD] at e
theorem keys_of {Γ : Gm} {mp : List Addr} {H : Hp} : ∀ {ds : List D} {vs : List V} {ks : List Key}, RvL Γ mp H ds vs → keysD ds = some ks → vs = ks.map kV
  | [], vs, ks, h, e => by simp only [RvL, keysD, Option.some.injEq] at h e; subst h e; rfl
  | d :: ds, vs, ks, h, e => by
    simp only [RvL, keysD] at h e
    obtain ⟨v, r, rfl, h2, h3⟩ := h
    split at e
    · rename_i k ks' e1 e2
      cases e
      rw [key_of h2 e1, keys_of h3 e2]; rfl
    · cases e
def valD {κ : Type} [DecidableEq κ] (kvs : List (κ × D)) (k : κ) : Option D := (kvs.find? fun kv => decide (kv.1 = k)).map (·.2)
def putD {κ : Type} [DecidableEq κ] (kvs : List (κ × D)) (k : κ) (v : D) : List (κ × D) :=
  if (kvs.any fun kv => decide (kv.1 = k)) = true then kvs.map (fun kv => if kv.1 = k then (kv.1, v) else kv) else kvs ++ [(k, v)]
section
variable {Γ : Gm} {mp : List Addr} {H : Hp} {κ : Type} [DecidableEq κ]
theorem val_of : ∀ {kvs : List (κ × D)} {vs : List (κ × V)} {k : κ}, vs.map (·.1) = kvs.map (·.1) → RvL Γ mp H (kvs.map (·.2)) (vs.map (·.2)) →
    (∀ d, valD kvs k = some d → ∃ v, valV vs k = some v ∧ Rv Γ mp H d v) ∧ (valD kvs k = none → valV vs k = none)
  | [], vs, k, e, r => by
    have : vs = [] := by cases vs <;> simp_all
    subst this
    exact ⟨fun d h => by simp [valD] at h, fun _ => rfl⟩
  | p :: kvs, vs, k, e, r => by
    cases vs with
    | nil => simp at e
    | cons q vs =>
      simp only [List.map_cons, List.cons.injEq] at e
      simp only [List.map_cons, RvL] at r
      obtain ⟨v, r', e2, r1, r2⟩ := r
      simp only [List.cons.injEq] at e2
      obtain ⟨rfl, rfl⟩ := e2
      have ih := val_of (k := k) e.2 r2
      by_cases hk : p.1 = k
      · have hq : q.1 = k := e.1.trans hk
        have a1 : valD (p :: kvs) k = some p.2 := by simp [valD, List.find?_cons, hk]
        have a2 : valV (q :: vs) k = some q.2 := by simp [valV, List.find?_cons, hq]
        rw [a1, a2]
        exact ⟨fun d h => by cases h; exact ⟨_, rfl, r1⟩, fun h => by cases h⟩
      · have hq : ¬ q.1 = k := fun z => hk (e.1.symm.trans z)
        have a1 : valD (p :: kvs) k = valD kvs k := by simp [valD, List.find?_cons, hk]
        have a2 : valV (q :: vs) k = valV vs k := by simp [valV, List.find?_cons, hq]
        rw [a1, a2]
        exact ih
theorem val_isSome {kvs : List (κ × D)} {vs : List (κ × V)} {k : κ} (e : vs.map (·.1) = kvs.map (·.1)) (r : RvL Γ mp H (kvs.map (·.2)) (vs.map (·.2))) : (valV vs k).isSome = (valD kvs k).isSome := by
  obtain ⟨h1, h2⟩ := val_of (k := k) e r
  cases q : valD kvs k with
  | none => rw [h2 q]; rfl
  | some d => obtain ⟨v, hv, _⟩ := h1 d q; rw [hv]; rfl
theorem put_of {kvs : List (κ × D)} {vs : List (κ × V)} {k : κ} {d : D} {v : V} (e : vs.map (·.1) = kvs.map (·.1)) (r : RvL Γ mp H (kvs.map (·.2)) (vs.map (·.2))) (rv : Rv Γ mp H d v) :
    (putK vs k v).map (·.1) = (putD kvs k d).map (·.1) ∧ RvL Γ mp H ((putD kvs k d).map (·.2)) ((putK vs k v).map (·.2)) := by
  have any_eq : (kvs.any fun kv => decide (kv.1 = k)) = (vs.any fun kv => decide (kv.1 = k)) := by
    have a1 : (kvs.any fun kv => decide (kv.1 = k)) = (kvs.map (·.1)).any fun x => decide (x = k) := by rw [List.any_map]; rfl
    have a2 : (vs.any fun kv => decide (kv.1 = k)) = (vs.map (·.1)).any fun x => decide (x = k) := by rw [List.any_map]; rfl
    rw [a1, a2, e]
  unfold putK putD
  rw [any_eq]
  split
  · constructor
    · rw [List.map_map, List.map_map]
      have : ∀ {α : Type} (x : α) (l : List (κ × α)), l.map ((fun kv => kv.1) ∘ fun kv => if kv.1 = k then (kv.1, x) else kv) = l.map (·.1) := fun x l => by
        apply List.map_congr_left; intro a _; simp only [Function.comp]; split <;> rfl
      rw [this, this, e]
    · rw [List.map_map, List.map_map]
      clear any_eq
      rename_i hany
      clear hany
      induction kvs generalizing vs with
      | nil => cases vs <;> simp_all [RvL]
      | cons p kvs ih =>
        cases vs with
        | nil => simp at e
        | cons q vs =>
          simp only [List.map_cons, List.cons.injEq] at e
          simp only [List.map_cons, RvL] at r
          obtain ⟨w, r', e2, r1, r2⟩ := r
          simp only [List.cons.injEq] at e2
          obtain ⟨rfl, rfl⟩ := e2
          rw [List.map_cons, List.map_cons]
          refine RvL.cons ?_ (ih e.2 r2)
          show Rv Γ mp H (if p.1 = k then (p.1, d) else p).2 (if q.1 = k then (q.1, v) else q).2
          rw [e.1]
          split <;> assumption
  · constructor
    · simp [e]
    · simp only [List.map_append, List.map_cons, List.map_nil]
      exact r.append (RvL.cons rv RvL.nil)
theorem RvL.zip {ks : List κ} {xs : List D} {vs : List V} (hl : ks.length = vs.length) (r : RvL Γ mp H xs vs) : (ks.zip vs).map (·.1) = (ks.zip xs).map (·.1) ∧ RvL Γ mp H ((ks.zip xs).map (·.2)) ((ks.zip vs).map (·.2)) := by
  have h2 := r.length
  have a1 : (ks.zip vs).map (·.1) = ks := by rw [List.map_fst_zip]; omega
  have a2 : (ks.zip xs).map (·.1) = ks := by rw [List.map_fst_zip]; omega
  have a3 : (ks.zip vs).map (·.2) = vs := by rw [List.map_snd_zip]; omega
  have a4 : (ks.zip xs).map (·.2) = xs := by rw [List.map_snd_zip]; omega
  rw [a1, a2, a3, a4]
  exact ⟨rfl, r⟩
end
/-- what a dict holds at a key: none: no dict, or no key -/
def getD' (d k : D) (st : Mem) : Option (Option D) := match d with
  | .dct ks xs => (keyD k).map fun q => valD (ks.zip xs) q
  | .loc n => match st[n]? with
    | some (.dK kvs) => (keyD k).map fun q => valD kvs q
    | some (.dT kvs) => match k with
      | .tup xs => (keysD xs).map fun q => valD kvs q
      | _ => none
    | _ => none
  | _ => none
theorem get_of {Γ : Gm} {mp : List Addr} {H : Hp} {st : Mem} {d k : D} {x y : V} {o : Option D} (R : RelM Γ mp H st) (h : Rv Γ mp H d x) (hk : Rv Γ mp H k y) (e : getD' d k st = some o) :
    ∃ a o', x = .ref a ∧ DGet H a y o' ∧ o'.isSome = o.isSome ∧ ∀ z, o = some z → ∃ v, o' = some v ∧ Rv Γ mp H z v := by
  unfold getD' at e
  split at e
  · rename_i ks xs
    simp only [Rv] at h
    obtain ⟨a, vs, rfl, q, n, l, r⟩ := h
    simp only [Option.map_eq_some_iff] at e
    obtain ⟨kk, ek, rfl⟩ := e
    obtain ⟨z1, z2⟩ := RvL.zip (κ := Key) l r
    have ey := key_of hk ek
    subst ey
    exact ⟨a, valV (ks.zip vs) kk, rfl, DGet.k q, val_isSome z1 z2, fun z hz => (val_of z1 z2).1 z hz⟩
  · rename_i n
    simp only [Rv] at h
    obtain ⟨a, rfl, hm⟩ := h
    split at e
    · rename_i kvs hs
      obtain ⟨vs, q, z1, z2⟩ := R.cell n _ a hs hm
      simp only [Option.map_eq_some_iff] at e
      obtain ⟨kk, ek, rfl⟩ := e
      have ey := key_of hk ek
      subst ey
      exact ⟨a, valV vs kk, rfl, DGet.k q, val_isSome z1 z2, fun z hz => (val_of z1 z2).1 z hz⟩
    · rename_i kvs hs
      obtain ⟨vs, q, z1, z2⟩ := R.cell n _ a hs hm
      split at e
      · rename_i xs
        simp only [Option.map_eq_some_iff] at e
        obtain ⟨kk, ek, rfl⟩ := e
        simp only [Rv] at hk
        obtain ⟨b, us, rfl, hb, rb⟩ := hk
        have ey := keys_of rb ek
        subst ey
        exact ⟨a, valV vs kk, rfl, DGet.t q hb.1, val_isSome z1 z2, fun z hz => (val_of z1 z2).1 z hz⟩
      · cases e
    · cases e
  · cases e

/-! ### in -/
def rInDict (neg : Bool) : R2 := fun x y H Q => ∃ a ov, y = .ref a ∧ DGet H a x ov ∧ Q (.bl (if neg then !ov.isSome else ov.isSome)) H
theorem op_inDict {X : Cx} {k : Nat} (r : XR k X) : OpR X (compareOp .In) (rInDict false) := by
  intro pins s σ H x y v u Q I rx ry h
  obtain ⟨a, ov, rfl, g, q⟩ := h
  cases ry
  exact d_in (by have := r.room.units; omega) I g rx fun s3 I3 => ⟨.bl ov.isSome, H, I3, rfl, q⟩
theorem op_notInDict {X : Cx} {k : Nat} (r : XR k X) : OpR X (compareOp .NotIn) (rInDict true) := by
  intro pins s σ H x y v u Q I rx ry h
  obtain ⟨a, ov, rfl, g, q⟩ := h
  cases ry
  exact d_notIn (by have := r.room.units; omega) I g rx fun s3 I3 => ⟨.bl (!ov.isSome), H, I3, rfl, q⟩
def flatD : D → Bool
  | .non => true
  | .bl _ => true
  | .int _ => true
  | .str _ => true
  | _ => false
theorem flat_of {Γ : Gm} {mp : List Addr} {H : Hp} {d : D} {x : V} (h : Rv Γ mp H d x) (f : flatD d = true) : flatV x = true := by
  cases d <;> simp only [Rv] at h <;> first | (subst h; rfl) | cases f
theorem eqV_of {Γ : Gm} {mp : List Addr} {H : Hp} {d e : D} {x y : V} (h1 : Rv Γ mp H d x) (h2 : Rv Γ mp H e y) (f1 : flatD d = true) (f2 : flatD e = true) : eqV x y = eqvD d e := by
  cases d <;> first | exact absurd f1 Bool.false_ne_true | (cases e <;> first | exact absurd f2 Bool.false_ne_true | (simp only [Rv] at h1 h2; subst h1 h2; simp [eqV, eqvD]))
theorem flatL_of {Γ : Gm} {mp : List Addr} {H : Hp} : ∀ {ds : List D} {vs : List V}, RvL Γ mp H ds vs → ds.all flatD = true → vs.all flatV = true
  | [], vs, h, _ => by simp only [RvL] at h; subst h; rfl
  | d :: ds, vs, h, f => by
    simp only [RvL] at h
    obtain ⟨v, r, rfl, h2, h3⟩ := h
    simp only [List.all_cons, Bool.and_eq_true] at f ⊢
    exact ⟨flat_of h2 f.1, flatL_of h3 f.2⟩
theorem inV_of {Γ : Gm} {mp : List Addr} {H : Hp} {d : D} {x : V} (h1 : Rv Γ mp H d x) (f1 : flatD d = true) : ∀ {ds : List D} {vs : List V}, RvL Γ mp H ds vs → ds.all flatD = true → inV x vs = ds.any fun z => eqvD z d
  | [], vs, h, _ => by simp only [RvL] at h; subst h; rfl
  | e :: ds, vs, h, f => by
    simp only [RvL] at h
    obtain ⟨v, r, rfl, h2, h3⟩ := h
    simp only [List.all_cons, Bool.and_eq_true] at f
    have ih := inV_of h1 f1 h3 f.2
    unfold inV at ih ⊢
    rw [List.any_cons, List.any_cons, ih, eqV_of h2 h1 f.1 f1]
/-- whether it is in -/
def memD (d e : D) (st : Mem) : Option Bool := match e with
  | .str y => match d with
    | .str x => match x.cps.toList with
      | [c] => some (decide (c ∈ y.cps.toList))
      | _ => some (!(Builtin.Str.occurrences y x 0 y.length 1).isEmpty)
    | _ => none
  | e => match seqD e st with
    | some xs =>
      if flatD d && xs.all flatD then some (xs.any fun z => eqvD z d)
      else match lstD e st with
        | some xs => if okD 12 d && okDL 11 xs then some (xs.any fun z => eqvD z d) else none
        | none => none
    | none => (getD' e d st).map (·.isSome)
def rMem (K : PySem.W.Frag) (neg : Bool) : R2 := fun x y H Q =>
  ((∃ (c : Nat) (z : Str), x = .str ⟨#[c]⟩ ∧ y = .str z ∧ Q (.bl (if neg then !decide (c ∈ z.cps.toList) else decide (c ∈ z.cps.toList))) H) ∨
    (∃ i j, x = .str i ∧ y = .str j ∧ Q (.bl (if neg then !(!(Builtin.Str.occurrences j i 0 j.length 1).isEmpty) else !(Builtin.Str.occurrences j i 0 j.length 1).isEmpty)) H)) ∨
  (rIn K neg x y H Q ∨ ((if neg then rNotInD K else rInD K) x y H Q ∨ rInDict neg x y H Q))
theorem op_mem {X : Cx} {k : Nat} (r : XR (k + 1) X) : OpR X (compareOp .In) (rMem X.K false) :=
  OpR.or (OpR.or op_in_sign op_in_str) (OpR.or op_in_seq (OpR.or (op_inD (by have := r.room.un; omega)) (op_inDict r)))
theorem op_notmem {X : Cx} {k : Nat} (r : XR (k + 1) X) : OpR X (compareOp .NotIn) (rMem X.K true) :=
  OpR.or (OpR.or op_notIn_sign op_notin_str) (OpR.or op_notIn_seq (OpR.or (op_notInD (by have := r.room.un; omega)) (op_notInDict r)))
def inD : F2 := fun d e st => match memD d e st with
  | some b => .ok (.bl b) st
  | none => .bad
def notinD : F2 := fun d e st => match memD d e st with
  | some b => .ok (.bl (!b)) st
  | none => .bad
theorem any_py {ds : List D} {e : D} {ps : List PyData} {q : PyData} (h : toPyL ds = some ps) (he : toPy e = some q) : (ps.any fun z => PyData.eqv z q) = ds.any fun z => eqvD z e := by
  induction ds generalizing ps with
  | nil => simp only [toPyL, Option.some.injEq] at h; subst h; rfl
  | cons d ds ih =>
    simp only [toPyL] at h
    split at h
    · rename_i p ps' e1 e2
      cases h
      rw [List.any_cons, List.any_cons, ih e2, eqvD_py d e p q e1 he]
    · cases h
theorem mem_of {Γ : Gm} {mp : List Addr} {H : Hp} {st : Mem} {d e : D} {x y : V} {Q : VK} {b : Bool} (neg : Bool) (R : RelM Γ mp H st) (h1 : Rv Γ mp H d x) (h2 : Rv Γ mp H e y) (hb : memD d e st = some b)
    (q : Q (.bl (if neg then !b else b)) H) : rMem Γ.K neg x y H Q := by
  unfold memD at hb
  split at hb
  · rename_i ys
    split at hb
    · rename_i xs
      simp only [Rv] at h1 h2; subst h1 h2
      split at hb
      · rename_i c hc
        cases hb
        refine .inl (.inl ⟨c, ys, ?_, rfl, q⟩)
        congr 1
        cases xs
        congr 1
        exact Array.ext' (by simpa using hc)
      · cases hb
        exact .inl (.inr ⟨xs, ys, rfl, rfl, q⟩)
    · cases hb
  · split at hb
    · rename_i xs hs
      obtain ⟨a, vs, rfl, ha, ra⟩ := seqD_of R h2 hs
      split at hb
      · rename_i hc
        simp only [Bool.and_eq_true] at hc
        cases hb
        refine .inr (.inl ⟨a, vs, rfl, ha, flat_of h1 hc.1, flatL_of ra hc.2, ?_⟩)
        rw [inV_of h1 hc.1 ra hc.2]
        exact q
      · split at hb
        · rename_i zs hz
          obtain ⟨b', us, eb, hb', rb⟩ := lstD_of R h2 hz
          split at hb
          · rename_i hc
            simp only [Bool.and_eq_true] at hc
            cases hb
            obtain ⟨p, e1, c1, l1⟩ := okD_py _ _ hc.1
            obtain ⟨ps, e2, c2, l2⟩ := okDL_py _ _ hc.2
            cases eb
            refine .inr (.inr (.inl ?_))
            have D1 := dp_of _ _ _ h1 e1
            have D2 : Dp Γ.K H (.ref a) (.list ps) := .lst hb' (dpL_of _ _ _ rb e2)
            have s1 := shaped_of c1 l1 (by decide)
            have s2 : SeqAt.shaped (.list ps) = true := shaped_of (n := 12) (by simpa [PyData.canLay0] using c2) (by simp only [PyData.depth]; omega) (by decide)
            have ee := any_py e2 e1
            cases neg with
            | true => exact ⟨p, ps, D1, D2, s1, s2, by rw [ee]; exact q⟩
            | false => exact ⟨p, ps, D1, D2, s1, s2, by rw [ee]; exact q⟩
          · cases hb
        · cases hb
    · simp only [Option.map_eq_some_iff] at hb
      obtain ⟨o, ho, rfl⟩ := hb
      obtain ⟨a, o', rfl, g, es, _⟩ := get_of R h2 h1 ho
      exact .inr (.inr (.inr ⟨a, o', rfl, g, by rw [es]; exact q⟩))
theorem srv_in {Γ : Gm} : Srv2 Γ inD (rMem Γ.K false) := by
  intro mp H st d e x y Q W R h1 h2 P
  unfold inD at P
  split at P
  · rename_i b hb
    exact mem_of false R h1 h2 hb (post_here P R (by simp [Rv]))
  · exact P.elim
theorem srv_notin {Γ : Gm} : Srv2 Γ notinD (rMem Γ.K true) := by
  intro mp H st d e x y Q W R h1 h2 P
  unfold notinD at P
  split at P
  · rename_i b hb
    exact mem_of true R h1 h2 hb (post_here P R (by simp [Rv]))
  · exact P.elim

/-! ### subscripts -/
def rGetD : R2 := fun x y H Q => ∃ a v, x = .ref a ∧ DGet H a y (some v) ∧ Q v H
theorem ix_dict {X : Cx} {k : Nat} (r : XR k X) : IxR X rGetD := by
  intro value slice pins s σ H x y v u Q I rx ry h hs
  obtain ⟨a, w, rfl, g, q⟩ := h
  cases rx
  exact tail_any (dict_typeIs I g) PySem.F.slot_dict_getitem.lookup (d_getItem (by have := r.room.units; omega) I g ry fun w' s3 I3 rw' => ⟨w, H, I3, rw', q⟩) hs
def rIx' (K : PySem.W.Frag) : R2 := fun x y H Q => (rIxL K x y H Q ∨ rIxT K x y H Q) ∨ (rIxS x y H Q ∨ rGetD x y H Q)
theorem ix_all {X : Cx} {k : Nat} (r : XR k X) : IxR X (rIx' X.K) := IxR.or (IxR.or ix_list ix_tup) (IxR.or ix_str (ix_dict r))
theorem atI_rel {Γ : Gm} {mp : List Addr} {H : Hp} {ds : List D} {vs : List V} {i : Int} {d : D} (r : RvL Γ mp H ds vs) (h : atI ds i = some d) : ∃ v, atI vs i = some v ∧ Rv Γ mp H d v := by
  unfold atI at h ⊢
  rw [← r.length]
  cases e : ixN ds.length i with
  | none => rw [e] at h; cases h
  | some j =>
    rw [e] at h
    obtain ⟨v, h1, h2⟩ := r.get (i := j) h
    exact ⟨v, h1, h2⟩
def ixD : F2 := fun d e st => match d with
  | .str x => match e with
    | .int i => if x.length ≤ LINE then (match atI x.cps.toList i with
      | some c => .ok (.str ⟨#[c]⟩) st
      | none => .bad) else .bad
    | _ => .bad
  | d => match seqD d st with
    | some xs => match e with
      | .int i => match atI xs i with
        | some z => .ok z st
        | none => .bad
      | _ => .bad
    | none => match getD' d e st with
      | some (some z) => .ok z st
      | _ => .bad
theorem srv_ix {Γ : Gm} : Srv2 Γ ixD (rIx' Γ.K) := by
  intro mp H st d e x y Q W R h1 h2 P
  unfold ixD at P
  split at P
  · split at P
    · simp only [Rv] at h1 h2; subst h1 h2
      split at P
      · rename_i hl
        split at P
        · rename_i c hc
          exact .inr (.inl ⟨_, _, c, rfl, rfl, line_le hl, hc, post_here P R (by simp [Rv])⟩)
        · exact P.elim
      · exact P.elim
    · exact P.elim
  · split at P
    · rename_i xs hs
      obtain ⟨a, vs, rfl, ha, ra⟩ := seqD_of R h1 hs
      split at P
      · simp only [Rv] at h2; subst h2
        split at P
        · rename_i z hz
          obtain ⟨v, hv, rz⟩ := atI_rel ra hz
          have q := post_here P R rz
          rcases ha with ha | ha
          · exact .inl (.inl ⟨a, vs, _, v, rfl, rfl, ha, hv, q⟩)
          · exact .inl (.inr ⟨a, vs, _, v, rfl, rfl, ha, hv, q⟩)
        · exact P.elim
      · exact P.elim
    · split at P
      · rename_i z hz
        obtain ⟨a, o', rfl, g, _, gv⟩ := get_of R h1 h2 hz
        obtain ⟨v, rfl, rv⟩ := gv z rfl
        exact .inr (.inr ⟨a, v, rfl, g, post_here P R rv⟩)
      · exact P.elim
/-! slices -/
abbrev MO := Env → Mem → Res (Option Int)
abbrev RO : List Addr → Hp → Option Int → Option Int → Prop := fun _ _ a b => a = b
structure SO (X : Cx) (e : Option Expr) (m : MO) : Prop where
  run : ∀ W, Takes X W → PO X e (tG (gm X) RO W m)
theorem PO.imp {X : Cx} {e : Option Expr} {t t' : TO} (h : PO X e t) (i : ∀ σ H Q, t' σ H Q → t σ H Q) : PO X e t' := ⟨fun pins s σ H Q I q => h.run pins s σ H Q I (i σ H Q q)⟩
def mNoPart : MO := fun _ st => .ok none st
def resI : D → Mem → Res (Option Int)
  | .int i, st => .ok (some i) st
  | _, _ => .bad
def mPart (m : ME) : MO := fun ρ st => (m ρ st).bind resI
def cutD (xs : List D) (lo hi : Option Int) : List D := (xs.drop (HT.sIx xs.length 0 lo)).take (HT.sIx xs.length xs.length hi - HT.sIx xs.length 0 lo)
def sliceD (mk : List D → Mem → Res D) (d : D) (lo hi : Option Int) (st : Mem) : Res D := match d with
  | .tup xs => .ok (.tup (cutD xs lo hi)) st
  | .str z => if z.length ≤ LINE then .ok (.str (cutS z lo hi)) st else .bad
  | d => match lstD d st with
    | some xs => mk (cutD xs lo hi) st
    | none => .bad
def mSlice (mk : List D → Mem → Res D) (m : ME) (lo hi : MO) : ME := fun ρ st => (m ρ st).bind fun d st1 => (lo ρ st1).bind fun l st2 => (hi ρ st2).bind fun h st3 => sliceD mk d l h st3
theorem cut_rel {Γ : Gm} {mp : List Addr} {H : Hp} {ds : List D} {vs : List V} (r : RvL Γ mp H ds vs) (lo hi : Option Int) : RvL Γ mp H (cutD ds lo hi) (cutV vs lo hi) := by
  unfold cutD cutV
  rw [r.length]
  exact (r.drop _).take _
section
variable {X : Cx} {e : Expr} {m : ME} {lo hi : Option Expr} {ml mh : MO} {pos p2 : Pos}
theorem so_none : SO X none mNoPart := ⟨fun W tk => PO.imp po_none fun σ H Q ⟨mp, st, ρ, R, E, P⟩ => P mp H none (Ext.refl _ _) R rfl⟩
theorem so_some (h : SE X e m) : SO X (some e) (mPart m) := ⟨fun W tk => PO.imp (po_some (h.run W tk)) fun σ H Q q => by
  obtain ⟨mp, st, ρ, R, E, P⟩ := tG_bind (Rel := Rv (gm X)) (m := m) (k := fun _ => resI) q
  refine ⟨mp, st, ρ, R, E, P.mono fun x H1 ⟨mp1, st1, ρ1, d, R1, E1, r1, P1⟩ => ?_⟩
  cases d with
  | int i => simp only [Rv] at r1; exact ⟨i, r1, P1 mp1 H1 _ (Ext.refl _ _) R1 rfl⟩
  | _ => exact P1.elim⟩
def rSl' (K : PySem.W.Frag) : V → Option Int → Option Int → Hp → VK → Prop := fun x lo hi H Q => rSlA K x lo hi H Q ∨ (rSlS x lo hi H Q ∨ rSlL K x lo hi H Q)
theorem sl_all : SlR X (rSl' X.K) := SlR.or sl_tupA (SlR.or sl_str sl_list)
theorem slice_of {Γ : Gm} {mk : List D → Mem → Res D} (hk : MkOk mk) {mp : List Addr} {H : Hp} {st : Mem} {d : D} {x : V} {l h : Option Int} {Q : VK} {W : XK} (R : RelM Γ mp H st) (rd : Rv Γ mp H d x)
    (P : Post Γ mp H (sliceD mk d l h st) Q W) : rSl' Γ.K x l h H Q := by
  unfold sliceD at P
  split at P
  · rename_i xs
    have rd' := rd
    simp only [Rv] at rd
    obtain ⟨a, vs, rfl, ha, ra⟩ := rd
    refine .inl ⟨a, vs, rfl, ha.sq, fun hw => ?_, fun _ => post_tup P R (cut_rel ra _ _)⟩
    have : cutD xs l h = xs := by
      unfold cutD
      rw [ra.length, hw.1, hw.2, List.drop_zero, Nat.sub_zero, ← ra.length, List.take_length]
    rw [this] at P
    exact post_here P R rd'
  · rename_i z
    simp only [Rv] at rd; subst rd
    split at P
    · rename_i hz
      exact .inr (.inl ⟨z, rfl, line_le hz, post_here P R (by simp [Rv])⟩)
    · exact P.elim
  · split at P
    · rename_i xs hs
      obtain ⟨a, vs, rfl, ha, ra⟩ := lstD_of R rd hs
      exact .inr (.inr ⟨a, vs, rfl, ha, hk Γ mp H st Q W _ _ R (cut_rel ra _ _) P⟩)
    · exact P.elim
theorem se_slice {mk : List D → Mem → Res D} (hk : MkOk mk) (he : SE X e m) (hl : SO X lo ml) (hu : SO X hi mh) : SE X (.Subscript e (.Slice lo hi none p2) pos) (mSlice mk m ml mh) :=
  ⟨fun W tk => PE.imp (pe_slice sl_all (he.run W tk) (hl.run W tk) (hu.run W tk)) fun σ H Q q => by
    obtain ⟨mp, st, ρ, R, E, P⟩ := tG_bind (Rel := Rv (gm X)) (m := m) (k := fun ρ d st1 => (ml ρ st1).bind fun l st2 => (mh ρ st2).bind fun h st3 => sliceD mk d l h st3) q
    refine ⟨mp, st, ρ, R, E, P.mono fun x H1 ⟨mp1, st1, ρ1, d, R1, E1, r1, P1⟩ => ?_⟩
    obtain ⟨mp2, st2, ρ2, R2, E2, P2⟩ := tG_bindK (Rel := RO) (m := ml) R1 E1 P1
    refine ⟨mp2, st2, ρ2, R2, E2, P2.mono fun l H2 ⟨mp3, st3, l', _, x3, R3, E3, r3, P3⟩ => ?_⟩
    cases r3
    obtain ⟨mp4, st4, ρ4, R4, E4, P4⟩ := tG_bindK (Rel := RO) (m := mh) R3 E3 P3
    refine ⟨mp4, st4, ρ4, R4, E4, P4.mono fun h H5 ⟨mp5, st5, h', _, x5, R5, E5, r5, P5⟩ => ?_⟩
    cases r5
    exact slice_of hk R5 (Rv.ext (x3.trans x5) _ _ r1) P5⟩
end
end VI
set_option maxHeartbeats 4000000
namespace VI
open PySem PySem.Spec PyProof.Rows L2

/-! ### argument lists, displays -/
section
variable {X : Cx} {e : Expr} {es : List Expr} {m : ME} {ms : List ME} {pos : Pos}
theorem sa_nil : SA X [] [] := ⟨fun W tk => PA.imp pa_nil fun σ H Q ⟨mp, st, ρ, R, E, P⟩ => P mp H [] (Ext.refl _ _) R RvL.nil, rfl⟩
theorem sa_cons (he : SE X e m) (hr : SA X es ms) (hs : starEach (e :: es) X.env = (false, eval e X.env) :: starEach es X.env := by rfl) : SA X (e :: es) (m :: ms) :=
  ⟨fun W tk => PA.imp (pa_cons (he.run W tk) (hr.run W tk) hs) fun σ H Q q => by
    obtain ⟨mp, st, ρ, R, E, P⟩ := tG_bind (Rel := Rv (gm X)) (m := m) (k := fun ρ d st1 => (mArgs ms ρ st1).bind fun ds st2 => .ok (d :: ds) st2) q
    refine ⟨mp, st, ρ, R, E, P.mono fun x H1 ⟨mp1, st1, ρ1, d, R1, E1, r1, P1⟩ => ?_⟩
    obtain ⟨mp2, st2, ρ2, R2, E2, P2⟩ := tG_bindK (Rel := RvL (gm X)) (m := mArgs ms) R1 E1 P1
    refine ⟨mp2, st2, ρ2, R2, E2, P2.mono fun xs H2 ⟨mp3, st3, ds, _, x3, R3, E3, r3, P3⟩ => ?_⟩
    exact P3 mp3 H2 _ (Ext.refl _ _) R3 (RvL.cons (Rv.ext x3 _ _ r1) r3), by simp [hr.len]⟩
/-- what stands over an argument list -/
theorem tA_of {Γ : Gm} {W : WX} {σ : L2.St} {H : Hp} {Q : VK} {f : List D → Mem → Res D} (h : tE Γ W (fun ρ st => (mArgs ms ρ st).bind f) σ H Q) :
    tL Γ W (mArgs ms) σ H (fun xs H1 => ∃ mp1 st1 ds, ds.length = ms.length ∧ RelM Γ mp1 H1 st1 ∧ RvL Γ mp1 H1 ds xs ∧ Post Γ mp1 H1 (f ds st1) Q (fun c d H' => W c d σ H')) := by
  obtain ⟨mp, st, ρ, R, E, P⟩ := h
  exact ⟨mp, st, ρ, R, E, P.bind'.mono fun xs H1 ⟨mp1, st1, ds, q, e, R1, r, P1⟩ => ⟨mp1, st1, ds, mArgs_len q, R1, r, P1⟩⟩
def mTup (ms : List ME) : ME := fun ρ st => (mArgs ms ρ st).bind fun ds st1 => .ok (.tup ds) st1
def mLst (mk : List D → Mem → Res D) (ms : List ME) : ME := fun ρ st => (mArgs ms ρ st).bind mk
theorem se_tup {x1 : Nat} (h : SA X es ms) (hl : ms.length ≤ 1000) : SE X (.Tuple es x1 pos) (mTup ms) := ⟨fun W tk => PE.imp (pe_tup (h.run W tk)) fun σ H Q q => by
  obtain ⟨mp, st, ρ, R, E, P⟩ := tA_of q
  refine ⟨mp, st, ρ, R, E, P.mono fun xs H1 ⟨mp1, st1, ds, hd, R1, r, P1⟩ => ⟨line_le (by rw [← r.length, hd]; exact Nat.le_trans hl (by decide)), post_tup P1 R1 r⟩⟩⟩
theorem se_lst {mk : List D → Mem → Res D} (hk : MkOk mk) (h : SA X es ms) (hl : ms.length ≤ 1000) : SE X (.List es pos) (mLst mk ms) := ⟨fun W tk => PE.imp (pe_lst (h.run W tk)) fun σ H Q q => by
  obtain ⟨mp, st, ρ, R, E, P⟩ := tA_of q
  refine ⟨mp, st, ρ, R, E, P.mono fun xs H1 ⟨mp1, st1, ds, hd, R1, r, P1⟩ => ⟨line_le (by rw [← r.length, hd]; exact Nat.le_trans hl (by decide)), hk (gm X) mp1 H1 st1 Q _ ds xs R1 r P1⟩⟩⟩

/-! ### calls of built-ins by values -/
abbrev FL := List D → Mem → Res D
def SrvL (Γ : Gm) (f : FL) (r : List V → Hp → VK → Prop) : Prop := ∀ mp H st ds xs (Q : VK) (W : XK), RelM Γ mp H st → RvL Γ mp H ds xs → Post Γ mp H (f ds st) Q W → r xs H Q
def mF (f : FL) (ms : List ME) : ME := fun ρ st => (mArgs ms ρ st).bind f
theorem tCB_of {Γ : Gm} {W : WX} {σ : L2.St} {H : Hp} {Q : VK} {f : FL} {r : List V → Hp → VK → Prop} (hf : SrvL Γ f r) (h : tE Γ W (mF f ms) σ H Q) : tCB r (tL Γ W (mArgs ms)) σ H Q := by
  obtain ⟨mp, st, ρ, R, E, P⟩ := tA_of h
  exact ⟨mp, st, ρ, R, E, P.mono fun xs H1 ⟨mp1, st1, ds, hd, R1, r1, P1⟩ => hf _ _ _ _ _ _ _ R1 r1 P1⟩
variable {x : Str} {p : Pos} {id T : String} {f : FL} {r : List V → Hp → VK → Prop}
theorem se_callB (hc : CallR X (.builtin id) r) (hf : SrvL (gm X) f r) (hv : bootBuiltins x = some (.builtin id)) (hg : Gl X x) (hm : X.mg x = none) (ha : SA X (e :: es) ms) (hn : x ≠ "__name__" := by decide) (hdb : (x == ("__debug__" : Str)) = false := by decide)
    (he : starEach (e :: es) X.env = (false, eval e X.env) :: starEach es X.env := by rfl) (hpl : (backTo pos (starEach es X.env)).any (·.1) = false := by rfl) : SE X (.Call (.Name x p) (e :: es) [] pos) (mF f ms) :=
  ⟨fun W tk => PE.imp (pe_callB hc hg hm hv (ha.run W tk) hn hdb he hpl) fun σ H Q q => tCB_of hf q⟩
theorem se_callTy (hc : CallR X (.type T) r) (hf : SrvL (gm X) f r) (hv : bootBuiltins x = some (.type T)) (hg : Gl X x) (hm : X.mg x = none) (ha : SA X (e :: es) ms) (hn : x ≠ "__name__" := by decide) (hdb : (x == ("__debug__" : Str)) = false := by decide)
    (he : starEach (e :: es) X.env = (false, eval e X.env) :: starEach es X.env := by rfl) (hpl : (backTo pos (starEach es X.env)).any (·.1) = false := by rfl) : SE X (.Call (.Name x p) (e :: es) [] pos) (mF f ms) :=
  ⟨fun W tk => PE.imp (pe_callTy hc hg hm hv (ha.run W tk) hn hdb he hpl) fun σ H Q q => tCB_of hf q⟩
end
section
variable {Γ : Gm} {mp : List Addr} {H : Hp}
theorem RvL.one {d : D} {xs : List V} (h : RvL Γ mp H [d] xs) : ∃ v, xs = [v] ∧ Rv Γ mp H d v := by
  simp only [RvL] at h
  obtain ⟨v, r, rfl, h2, rfl⟩ := h
  exact ⟨v, rfl, h2⟩
theorem RvL.two {d e : D} {xs : List V} (h : RvL Γ mp H [d, e] xs) : ∃ v u, xs = [v, u] ∧ Rv Γ mp H d v ∧ Rv Γ mp H e u := by
  simp only [RvL] at h
  obtain ⟨v, r, rfl, h2, u, r2, rfl, h4, rfl⟩ := h
  exact ⟨v, u, rfl, h2, h4⟩
end
/-- one argument, two -/
def f1 (f : F1) : FL := fun ds st => match ds with
  | [d] => f d st
  | _ => .bad
def f2 (f : F2) : FL := fun ds st => match ds with
  | [d, e] => f d e st
  | _ => .bad
theorem srvL1 {Γ : Gm} {f : F1} {r : List V → Hp → VK → Prop} (h : Srv1 Γ f fun x H Q => r [x] H Q) : SrvL Γ (f1 f) r := by
  intro mp H st ds xs Q W R rl P
  unfold f1 at P
  split at P
  · obtain ⟨v, rfl, rv⟩ := rl.one
    exact h mp H st _ v Q W R rv P
  · exact P.elim
theorem srvL2 {Γ : Gm} {f : F2} {r : List V → Hp → VK → Prop} (h : Srv2 Γ f fun x y H Q => r [x, y] H Q) : SrvL Γ (f2 f) r := by
  intro mp H st ds xs Q W R rl P
  unfold f2 at P
  split at P
  · obtain ⟨v, u, rfl, rv, ru⟩ := rl.two
    exact h mp H st _ _ v u Q W R rv ru P
  · exact P.elim
/-! len -/
def lenD : F1 := fun d st => match d with
  | .str x => if x.length ≤ LINE then .ok (.int (x.length : Nat)) st else .bad
  | .dct ks xs => if ks.length = xs.length then .ok (.int (ks.length : Nat)) st else .bad
  | .loc n => match st[n]? with
    | some (.lst xs) => .ok (.int (xs.length : Nat)) st
    | some (.dK kvs) => .ok (.int (kvs.length : Nat)) st
    | _ => .bad
  | d => match seqD d st with
    | some xs => .ok (.int (xs.length : Nat)) st
    | none => .bad
def rLen' (K : PySem.W.Frag) : List V → Hp → VK → Prop := fun xs H Q => (∃ x n, xs = [x] ∧ LenV K x H n ∧ Q (.int n) H) ∨ ∃ a kvs, xs = [V.ref a] ∧ H a = some (.dK kvs) ∧ Q (.int kvs.length) H
theorem call_len' {X : Cx} : CallR X (.builtin "len") (rLen' X.K) := CallR.or call_len call_lenD
theorem srv_len {Γ : Gm} : SrvL Γ (f1 lenD) (rLen' Γ.K) := srvL1 (by
  intro mp H st d x Q W R h P
  unfold lenD at P
  split at P
  · simp only [Rv] at h; subst h
    split at P
    · rename_i hl
      exact .inl ⟨_, _, rfl, ⟨line_le hl, rfl⟩, post_here P R (by simp [Rv])⟩
    · exact P.elim
  · rename_i ks xs
    simp only [Rv] at h
    obtain ⟨a, vs, rfl, q, n, l, r⟩ := h
    split at P
    · refine .inr ⟨a, _, rfl, q, post_here P R ?_⟩
      simp only [Rv, List.length_zip, ← l, Nat.min_self]
    · exact P.elim
  · rename_i n
    simp only [Rv] at h
    obtain ⟨a, rfl, hm⟩ := h
    split at P
    · rename_i xs hs
      obtain ⟨vs, q, r⟩ := R.cell n _ a hs hm
      exact .inl ⟨_, vs.length, rfl, .inl ⟨vs, SqL.of q, rfl⟩, post_here P R (by simp [Rv, r.length])⟩
    · rename_i kvs hs
      obtain ⟨vs, q, k', r⟩ := R.cell n _ a hs hm
      have hl := congrArg List.length k'
      simp only [List.length_map] at hl
      exact .inr ⟨a, vs, rfl, q, post_here P R (by simp [Rv, hl])⟩
    · exact P.elim
  · split at P
    · rename_i xs hs
      obtain ⟨a, vs, rfl, ha, ra⟩ := seqD_of R h hs
      refine .inl ⟨_, vs.length, rfl, ?_, post_here P R (by simp [Rv, ra.length])⟩
      rcases ha with ha | ha
      · exact .inl ⟨vs, ha, rfl⟩
      · exact .inr ⟨vs, ha, rfl⟩
    · exact P.elim)
/-! all, any, sum -/
def boolsD : List D → Option (List Bool)
  | [] => some []
  | .bl i :: ds => (boolsD ds).map (i :: ·)
  | _ :: _ => none
theorem bools_of {Γ : Gm} {mp : List Addr} {H : Hp} : ∀ {ds : List D} {ns : List Bool} {vs : List V}, RvL Γ mp H ds vs → boolsD ds = some ns → vs = ns.map V.bl
  | [], ns, vs, h, e => by simp only [RvL, boolsD, Option.some.injEq] at h e; subst h e; rfl
  | .bl i :: ds, ns, vs, h, e => by
    simp only [RvL, Rv, boolsD, Option.map_eq_some_iff] at h e
    obtain ⟨v, r, rfl, rfl, h3⟩ := h
    obtain ⟨ms, e, rfl⟩ := e
    rw [bools_of h3 e]; rfl
  | .non :: _, _, _, _, e | .int _ :: _, _, _, _, e | .str _ :: _, _, _, _, e | .tup _ :: _, _, _, _, e | .lst _ :: _, _, _, _, e | .dct _ _ :: _, _, _, _, e | .loc _ :: _, _, _, _, e | .gl _ :: _, _, _, _, e | .fz _ :: _, _, _, _, e | .kt _ :: _, _, _, _, e => by simp [boolsD] at e
@[simp] theorem boolsD_map (ns : List Bool) : boolsD (ns.map D.bl) = some ns := by
  induction ns with
  | nil => rfl
  | cons n ns ih => simp [boolsD, ih]
def allD : F1 := fun d st => match lstD d st with
  | some xs => match boolsD xs with
    | some bs => .ok (.bl (bs.all id)) st
    | none => .bad
  | none => .bad
def anyD : F1 := fun d st => match lstD d st with
  | some xs => match boolsD xs with
    | some bs => .ok (.bl (bs.any id)) st
    | none => .bad
  | none => .bad
def sumD : F1 := fun d st => match lstD d st with
  | some xs => match intsD xs with
    | some bs => .ok (.int bs.sum) st
    | none => .bad
  | none => .bad
theorem srv_all {Γ : Gm} : SrvL Γ (f1 allD) (rAll Γ.K) := srvL1 (by
  intro mp H st d x Q W R h P
  unfold allD at P
  split at P
  · rename_i xs hs
    obtain ⟨a, vs, rfl, ha, ra⟩ := lstD_of R h hs
    split at P
    · rename_i bs hb
      have := bools_of ra hb
      subst this
      exact ⟨a, bs, rfl, ha, post_here P R (by simp [Rv])⟩
    · exact P.elim
  · exact P.elim)
theorem srv_any {Γ : Gm} : SrvL Γ (f1 anyD) (rAny Γ.K) := srvL1 (by
  intro mp H st d x Q W R h P
  unfold anyD at P
  split at P
  · rename_i xs hs
    obtain ⟨a, vs, rfl, ha, ra⟩ := lstD_of R h hs
    split at P
    · rename_i bs hb
      have := bools_of ra hb
      subst this
      exact ⟨a, bs, rfl, ha, post_here P R (by simp [Rv])⟩
    · exact P.elim
  · exact P.elim)
theorem srv_sum {Γ : Gm} : SrvL Γ (f1 sumD) (rSum Γ.K) := srvL1 (by
  intro mp H st d x Q W R h P
  unfold sumD at P
  split at P
  · rename_i xs hs
    obtain ⟨a, vs, rfl, ha, ra⟩ := lstD_of R h hs
    split at P
    · rename_i bs hb
      have := ints_of ra hb
      subst this
      exact ⟨a, bs, rfl, ha, post_here P R (by simp [Rv])⟩
    · exact P.elim
  · exact P.elim)
/-! min, max -/
def minD : F2 := fun d e st => match d, e with
  | .int i, .int j => .ok (.int (if j < i then j else i)) st
  | _, _ => .bad
def maxD : F2 := fun d e st => match d, e with
  | .int i, .int j => .ok (.int (if j > i then j else i)) st
  | _, _ => .bad
theorem srv_min {Γ : Gm} : SrvL Γ (f2 minD) (fun xs H Q => ∃ i j, xs = [.int i, .int j] ∧ Q (.int (if j < i then j else i)) H) := srvL2 (by
  intro mp H st d e x y Q W R h1 h2 P
  unfold minD at P
  split at P
  · simp only [Rv] at h1 h2; subst h1 h2
    exact ⟨_, _, rfl, post_here P R (by simp [Rv])⟩
  · exact P.elim)
theorem srv_max {Γ : Gm} : SrvL Γ (f2 maxD) (fun xs H Q => ∃ i j, xs = [.int i, .int j] ∧ Q (.int (if j > i then j else i)) H) := srvL2 (by
  intro mp H st d e x y Q W R h1 h2 P
  unfold maxD at P
  split at P
  · simp only [Rv] at h1 h2; subst h1 h2
    exact ⟨_, _, rfl, post_here P R (by simp [Rv])⟩
  · exact P.elim)
/-! list(..), tuple(..) -/
def listD (mk : List D → Mem → Res D) : F1 := fun d st => match seqD d st with
  | some xs => mk xs st
  | none => .bad
def tupleD : F1 := fun d st => match d with
  | .tup xs => .ok (.tup xs) st
  | .kt xs => .ok (.kt xs) st
  | d => match lstD d st with
    | some xs => .ok (.tup xs) st
    | none => .bad
theorem srv_list {Γ : Gm} {mk : List D → Mem → Res D} (hk : MkOk mk) : SrvL Γ (f1 (listD mk)) (fun xs H Q => ∃ p ys, xs = [.ref p] ∧ (SqL Γ.K H p ys ∨ SqT Γ.K H p ys) ∧ ∀ l, H l = none → Q (.ref l) (upd H l (.lst ys))) := srvL1 (by
  intro mp H st d x Q W R h P
  unfold listD at P
  split at P
  · rename_i xs hs
    obtain ⟨a, vs, rfl, ha, ra⟩ := seqD_of R h hs
    exact ⟨a, vs, rfl, ha, hk Γ mp H st Q W _ _ R ra P⟩
  · exact P.elim)
theorem srv_tuple {Γ : Gm} : SrvL Γ (f1 tupleD) (fun xs H Q => ∃ p ys, xs = [.ref p] ∧ ((SqL Γ.K H p ys ∧ ∀ l, H l = none → Q (.ref l) (upd H l (.tup ys))) ∨ (SqT Γ.K H p ys ∧ Q (.ref p) H))) := srvL1 (by
  intro mp H st d x Q W R h P
  unfold tupleD at P
  split at P
  · have h' := h
    simp only [Rv] at h
    obtain ⟨a, vs, rfl, ha, ra⟩ := h
    exact ⟨a, vs, rfl, .inr ⟨ha.sq, post_here P R h'⟩⟩
  · have h' := h
    simp only [Rv] at h
    obtain ⟨a, vs, rfl, ha, ra⟩ := h
    exact ⟨a, vs, rfl, .inr ⟨ha.sq, post_here P R h'⟩⟩
  · split at P
    · rename_i xs hs
      obtain ⟨a, vs, rfl, ha, ra⟩ := lstD_of R h hs
      exact ⟨a, vs, rfl, .inl ⟨ha, post_tup P R ra⟩⟩
    · exact P.elim)
/-! int(..), str(..) -/
def intD : F1 := fun d st => match d with
  | .int i => .ok (.int i) st
  | .bl k => .ok (.int (if k then 1 else 0)) st
  | .str x => match PySem.intText? x with
    | some n => if x.length ≤ 640 then .ok (.int n) st else .bad
    | none => .bad
  | _ => .bad
def rInt' : List V → Hp → VK → Prop := fun xs H Q => ((∃ i, xs = [.int i] ∧ Q (.int i) H) ∨ ∃ k, xs = [.bl k] ∧ Q (.int (if k then 1 else 0)) H) ∨ (∃ a n, xs = [.str a] ∧ PySem.intText? a = some n ∧ a.length ≤ 640 ∧ Q (.int n) H)
theorem call_int' {X : Cx} : CallR X (.type "int") rInt' := CallR.or call_int1 call_int_str
theorem srv_int {Γ : Gm} : SrvL Γ (f1 intD) rInt' := srvL1 (by
  intro mp H st d x Q W R h P
  unfold intD at P
  split at P
  · simp only [Rv] at h; subst h
    exact .inl (.inl ⟨_, rfl, post_here P R (by simp [Rv])⟩)
  · simp only [Rv] at h; subst h
    exact .inl (.inr ⟨_, rfl, post_here P R (by simp [Rv])⟩)
  · simp only [Rv] at h; subst h
    split at P
    · rename_i n hn
      split at P
      · rename_i hl
        exact .inr ⟨_, n, rfl, hn, hl, post_here P R (by simp [Rv])⟩
      · exact P.elim
    · exact P.elim
  · exact P.elim)
def strD : F1 := fun d st => match d with
  | .int i => if i.natAbs < 1000000000000000000000 then .ok (.str (toString i)) st else .bad
  | _ => .bad
theorem log2_small {n b : Nat} (h : n < 2 ^ b) (h0 : 0 < b) : n.log2 < b := PySem.Flt.log2_lt_of h0 h
theorem srv_str {Γ : Gm} : SrvL Γ (f1 strD) (fun xs H Q => ∃ i, xs = [.int i] ∧ i.natAbs.log2 < 1920 ∧ Q (.str (toString i)) H) := srvL1 (by
  intro mp H st d x Q W R h P
  unfold strD at P
  split at P
  · simp only [Rv] at h; subst h
    split at P
    · rename_i hl
      exact ⟨_, rfl, Nat.lt_of_lt_of_le (log2_small (b := 70) (by omega) (by decide)) (by decide), post_here P R (by simp [Rv])⟩
    · exact P.elim
  · exact P.elim)

/-! ### isinstance -/
/-- the type's name -/
def typeD (d : D) (st : Mem) : Option String := match d with
  | .non => some "NoneType"
  | .bl _ => some "bool"
  | .int _ => some "int"
  | .str _ => some "str"
  | .tup _ => some "tuple"
  | .kt _ => some "tuple"
  | .lst _ => some "list"
  | .fz _ => some "list"
  | .dct _ _ => some "dict"
  | .loc n => match st[n]? with
    | some (.lst _) => some "list"
    | some (.dK _) => some "dict"
    | some (.dT _) => some "dict"
    | _ => none
  | .gl _ => none
theorem type_of {Γ : Gm} {mp : List Addr} {H : Hp} {st : Mem} {d : D} {x : V} {t : String} (R : RelM Γ mp H st) (h : Rv Γ mp H d x) (e : typeD d st = some t) : TyX Γ.K H x (.type t) := by
  cases d with
  | non => simp only [Rv, typeD, Option.some.injEq] at h e; subst h e; exact .base .non
  | bl b => simp only [Rv, typeD, Option.some.injEq] at h e; subst h e; exact .base (.bl b)
  | int b => simp only [Rv, typeD, Option.some.injEq] at h e; subst h e; exact .base (.int b)
  | str b => simp only [Rv, typeD, Option.some.injEq] at h e; subst h e; exact .base (.str b)
  | tup xs =>
    simp only [Rv, typeD, Option.some.injEq] at h e; subst e
    obtain ⟨a, vs, rfl, q, r⟩ := h
    exact .base (.tup q.1)
  | kt xs =>
    simp only [Rv, typeD, Option.some.injEq] at h e; subst e
    obtain ⟨a, vs, rfl, q, r⟩ := h
    rcases q with ⟨q | ⟨o, q⟩, _⟩ | ⟨o, its, n, q, c, _⟩
    · exact .base (.tup q)
    · exact .fTuple q
    · exact .kTuple q c
  | lst xs =>
    simp only [Rv, typeD, Option.some.injEq] at h e; subst e
    obtain ⟨a, vs, rfl, q, r⟩ := h
    exact .base (.lst q.1)
  | fz xs =>
    simp only [Rv, typeD, Option.some.injEq] at h e; subst e
    obtain ⟨a, vs, rfl, q, r⟩ := h
    rcases q with ⟨q | ⟨o, q⟩, _⟩ | ⟨o, its, n, q, c, _⟩
    · exact .base (.lst q)
    · exact .base (.frz q)
    · exact .kList q c
  | dct ks xs =>
    simp only [Rv, typeD, Option.some.injEq] at h e; subst e
    obtain ⟨a, vs, rfl, q, _⟩ := h
    exact .base (.dK q)
  | loc n =>
    simp only [Rv, typeD] at h e
    obtain ⟨a, rfl, hm⟩ := h
    split at e
    · rename_i xs hs
      obtain ⟨vs, q, r⟩ := R.cell n _ a hs hm
      cases e
      exact .base (.lst q)
    · rename_i xs hs
      obtain ⟨vs, q, r⟩ := R.cell n _ a hs hm
      cases e
      exact .base (.dK q)
    · rename_i xs hs
      obtain ⟨vs, q, r⟩ := R.cell n _ a hs hm
      cases e
      exact .base (.dT q)
    · cases e
  | gl y => simp [typeD] at e
/-- whether a built-in type is a built-in class -/
def isiB (t c : String) : Bool := t == c || (t == "bool" && c == "int")
def dataTypes : List String := ["NoneType", "bool", "int", "str", "tuple", "list", "dict"]
theorem isiB_ok : ∀ t ∈ dataTypes, ∀ c ∈ ["int", "bool", "str", "tuple", "list", "dict"], kitB t c = some (isiB t c) := by decide +kernel
theorem typeD_in {d : D} {st : Mem} {t : String} (e : typeD d st = some t) : t ∈ dataTypes := by
  unfold typeD at e
  split at e <;> first | (cases e; decide) | (cases e; done) | (split at e <;> first | (cases e; decide) | cases e)
def isiD (cs : List String) : F1 := fun d st => match typeD d st with
  | some t => .ok (.bl (cs.any fun c => isiB t c)) st
  | none => .bad
section
variable {X : Cx} {e : Expr} {m : ME} {pos p q : Pos} {c c2 : Str} {C C2 : String}
theorem se_isi (he : SE X e m) (hc : C ∈ ["int", "bool", "str", "tuple", "list", "dict"]) (hv : bootBuiltins c = some (.type C)) (hg : Gl X "isinstance") (hm : X.mg "isinstance" = none) (hgc : Gl X c) (hmc : X.mg c = none) (hn : c ≠ "__name__" := by decide)
    (hdb : (c == ("__debug__" : Str)) = false := by decide) (hs : starEach [e, .Name c q] X.env = (false, eval e X.env) :: starEach [.Name c q] X.env := by rfl) (hs2 : starEach [.Name c q] X.env = (false, eval (.Name c q) X.env) :: starEach [] X.env := by rfl)
    (hpl : (backTo pos (starEach [.Name c q] X.env)).any (·.1) = false := by rfl) : SE X (.Call (.Name "isinstance" p) [e, .Name c q] [] pos) (m1 (isiD [C]) m) :=
  ⟨fun W tk => PE.imp (pe_callB call_isi hg hm boot_isinstance (pa_cons (he.run W tk) (pa_cons (pe_bltn (v := .ty C) hgc hmc hv rfl hn hdb) pa_nil hs2) hs) (by decide) (by decide) hs hpl) fun σ H Q h => by
    obtain ⟨mp, st, ρ, R, E, P⟩ := tG_bind (Rel := Rv (gm X)) (m := m) (k := fun _ d st1 => isiD [C] d st1) h
    refine ⟨mp, st, ρ, R, E, P.mono fun x H1 ⟨mp1, st1, ρ1, d, R1, E1, r1, P1⟩ => ?_⟩
    unfold isiD at P1
    split at P1
    · rename_i t ht
      refine ⟨x, .ty C, .type t, .type C, isiB t C, rfl, .ty C, type_of R1 r1 ht, kit_ty (isiB_ok t (typeD_in ht) C hc), ?_⟩
      have := post_here P1 R1 (v := .bl (isiB t C)) (by simp [Rv])
      exact this
    · exact P1.elim⟩
theorem se_isi2 {k2 : Nat} {tp : Pos} {q2 : Pos} (he : SE X e m) (hc : C ∈ ["int", "bool", "str", "tuple", "list", "dict"]) (hc2 : C2 ∈ ["int", "bool", "str", "tuple", "list", "dict"]) (hv : bootBuiltins c = some (.type C)) (hv2 : bootBuiltins c2 = some (.type C2))
    (hg : Gl X "isinstance") (hm : X.mg "isinstance" = none) (hgc : Gl X c) (hmc : X.mg c = none) (hgc2 : Gl X c2) (hmc2 : X.mg c2 = none) (hn : c ≠ "__name__" := by decide) (hn2 : c2 ≠ "__name__" := by decide)
    (hdb : (c == ("__debug__" : Str)) = false := by decide) (hdb2 : (c2 == ("__debug__" : Str)) = false := by decide)
    (hs : starEach [e, .Tuple [.Name c q, .Name c2 q2] k2 tp] X.env = (false, eval e X.env) :: starEach [.Tuple [.Name c q, .Name c2 q2] k2 tp] X.env := by rfl) : SE X (.Call (.Name "isinstance" p) [e, .Tuple [.Name c q, .Name c2 q2] k2 tp] [] pos) (m1 (isiD [C, C2]) m) :=
  ⟨fun W tk => PE.imp (pe_callB call_isiT hg hm boot_isinstance (pa_cons (he.run W tk) (pa_cons (pe_tup (pa_cons (pe_bltn (v := .ty C) hgc hmc hv rfl hn hdb) (pa_cons (pe_bltn (v := .ty C2) hgc2 hmc2 hv2 rfl hn2 hdb2) pa_nil))) pa_nil) hs) (by decide) (by decide) hs) fun σ H Q h => by
    obtain ⟨mp, st, ρ, R, E, P⟩ := tG_bind (Rel := Rv (gm X)) (m := m) (k := fun _ d st1 => isiD [C, C2] d st1) h
    refine ⟨mp, st, ρ, R, E, P.mono fun x H1 ⟨mp1, st1, ρ1, d, R1, E1, r1, P1⟩ => ⟨line_le (show 2 ≤ LINE by decide), fun tq ht => ?_⟩⟩
    unfold isiD at P1
    split at P1
    · rename_i t hty
      have a1 := isiB_ok t (typeD_in hty) C hc
      have a2 := isiB_ok t (typeD_in hty) C2 hc2
      have x1 : Ext mp1 H1 mp1 (upd H1 tq (.tup [.ty C, .ty C2])) := ext_laid ht
      refine ⟨x, tq, [.ty C, .ty C2], .type t, [.type C, .type C2], isiB t C || isiB t C2, rfl, upd_same, .cons (.ty C) (.cons (.ty C2) .nil), type_of (R1.laid ht) (Rv.ext x1 _ _ r1) hty, ?_, ?_⟩
      · refine kitAny_cons (kit_ty a1) (fun hb => ?_) (fun hb => by rw [hb]; rfl)
        rw [hb]
        refine kitAny_cons (kit_ty a2) (fun hb2 => ?_) (fun hb2 => by rw [hb2]; rfl)
        rw [hb2]; rfl
      · exact P1 mp1 _ _ x1 (R1.laid ht) (by simp [Rv])
    · exact P1.elim⟩
end
end VI
set_option maxHeartbeats 4000000
namespace VI
open PySem PySem.Spec PyProof.Rows L2

/-- what a rule wants of its context: room for k calls, no guard, not in an except suite, no name twice, exceptions pass the loops -/
structure XC (k : Nat) (X : Cx) : Prop where
  xr : XR k X
  calm : X.calm = true
  nd : X.N.Nodup
  po : PassesOwn (model X.prog X.w) X.A X.env X.xe
theorem XC.mono {j k : Nat} {X : Cx} (r : XC k X) (h : j ≤ k := by decide) : XC j X := ⟨r.xr.mono h, r.calm, r.nd, r.po⟩
theorem XC.blk {k : Nat} {X : Cx} (r : XC k X) (s : Shared) (H : Hp) (scope : Scope) (cenv : PySem.Env) (fp : List Addr) : XC k (X.blk s H scope cenv fp) :=
  ⟨⟨r.xr.room, r.xr.gd⟩, r.calm, r.nd, PassesOwn.never⟩

inductive RS where
  | nx (ρ : Env) (st : Mem) | rt (d : D) (st : Mem) | bk (ρ : Env) (st : Mem) | ct (ρ : Env) (st : Mem) | exc (e : Ex) (ρ : Env) (st : Mem) | bad
abbrev MS := Env → Mem → RS
def RS.seq (r : RS) (k : MS) : RS := match r with
  | .nx ρ st => k ρ st
  | r => r
def Res.toS {α : Type} (r : Res α) (ρ : Env) (k : α → Mem → RS) : RS := match r with
  | .ok a st => k a st
  | .exc e st => .exc e ρ st
  | .bad => .bad
@[simp] theorem Res.ok_toS {α : Type} (a : α) (st : Mem) (ρ : Env) (k : α → Mem → RS) : (Res.ok a st).toS ρ k = k a st := rfl
@[simp] theorem Res.exc_toS {α : Type} (e : Ex) (st : Mem) (ρ : Env) (k : α → Mem → RS) : (Res.exc e st : Res α).toS ρ k = .exc e ρ st := rfl
@[simp] theorem Res.bad_toS {α : Type} (ρ : Env) (k : α → Mem → RS) : (Res.bad : Res α).toS ρ k = .bad := rfl
@[simp] theorem RS.nx_seq (ρ : Env) (st : Mem) (k : MS) : (RS.nx ρ st).seq k = k ρ st := rfl
@[simp] theorem RS.rt_seq (d : D) (st : Mem) (k : MS) : (RS.rt d st).seq k = .rt d st := rfl
@[simp] theorem RS.bk_seq (ρ : Env) (st : Mem) (k : MS) : (RS.bk ρ st).seq k = .bk ρ st := rfl
@[simp] theorem RS.ct_seq (ρ : Env) (st : Mem) (k : MS) : (RS.ct ρ st).seq k = .ct ρ st := rfl
@[simp] theorem RS.exc_seq (e : Ex) (ρ : Env) (st : Mem) (k : MS) : (RS.exc e ρ st).seq k = .exc e ρ st := rfl
@[simp] theorem RS.bad_seq (k : MS) : RS.bad.seq k = .bad := rfl

def PostS (Γ : Gm) (mp : List Addr) (H : Hp) (r : RS) (E : Ends) (W : WX) : Prop :=
  match r with
  | .nx ρ' st' => ∀ mp' H' σ', Ext mp H mp' H' → RelM Γ mp' H' st' → RelE Γ mp' H' ρ' σ' → E.nx σ' H'
  | .bk ρ' st' => ∀ mp' H' σ', Ext mp H mp' H' → RelM Γ mp' H' st' → RelE Γ mp' H' ρ' σ' → E.bk σ' H'
  | .ct ρ' st' => ∀ mp' H' σ', Ext mp H mp' H' → RelM Γ mp' H' st' → RelE Γ mp' H' ρ' σ' → E.ct σ' H'
  | .rt d st' => ∀ mp' H' v, Ext mp H mp' H' → RelM Γ mp' H' st' → Rv Γ mp' H' d v → E.rt v H'
  | .exc e ρ' st' => ∀ mp' H' cls dd σ', Ext mp H mp' H' → RelM Γ mp' H' st' → RelX Γ mp' H' e cls dd → RelE Γ mp' H' ρ' σ' → W cls dd σ' H'
  | .bad => False
section
variable {Γ : Gm} {mp mp' : List Addr} {H H' : Hp} {r : RS} {E E' : Ends} {W : WX}
theorem PostS.ext (h : PostS Γ mp H r E W) (e : Ext mp H mp' H') : PostS Γ mp' H' r E W := by
  cases r with
  | nx => exact fun m2 H2 v e2 => h m2 H2 v (e.trans e2)
  | bk => exact fun m2 H2 v e2 => h m2 H2 v (e.trans e2)
  | ct => exact fun m2 H2 v e2 => h m2 H2 v (e.trans e2)
  | rt => exact fun m2 H2 v e2 => h m2 H2 v (e.trans e2)
  | exc => exact fun m2 H2 c dd v e2 => h m2 H2 c dd v (e.trans e2)
  | bad => exact h
/-- an expression first -/
theorem PostS.toS {α β : Type} {Rel : List Addr → Hp → α → β → Prop} {x : Res α} {k : α → Mem → RS} {ρ : Env} {σ : L2.St} (h : PostS Γ mp H (x.toS ρ k) E W) (re : RelE Γ mp H ρ σ) :
    PostG Γ Rel mp H x (fun v H1 => ∃ mp1 st1 a, x = .ok a st1 ∧ Ext mp H mp1 H1 ∧ RelM Γ mp1 H1 st1 ∧ Rel mp1 H1 a v ∧ RelE Γ mp1 H1 ρ σ ∧ PostS Γ mp1 H1 (k a st1) E W) (fun c d H' => W c d σ H') := by
  cases x with
  | ok d st => exact fun m2 H2 v e2 R r => ⟨m2, st, d, rfl, e2, R, r, re.ext e2, PostS.ext (r := k d st) h e2⟩
  | exc x st => exact fun m2 H2 c dd e2 R rx => h m2 H2 c dd σ e2 R rx (re.ext e2)
  | bad => exact h
end
/-- a statement's reading -/
def tS (Γ : Gm) (W : WX) (m : MS) : TS := fun E σ H => ∃ mp st ρ, RelM Γ mp H st ∧ RelE Γ mp H ρ σ ∧ PostS Γ mp H (m ρ st) E W
structure SS (X : Cx) (s : Stmt) (m : MS) : Prop where
  run : ∀ W, Takes X W → PS X s (tS (gm X) W m)
structure SSs (X : Cx) (s : List Stmt) (m : MS) : Prop where
  run : ∀ W, Takes X W → PSs X s (tS (gm X) W m)
theorem PS.imp {X : Cx} {s : Stmt} {t t' : TS} (h : PS X s t) (i : ∀ E σ H, t' E σ H → t E σ H) : PS X s t' := ⟨fun pins s σ H E I q => h.run pins s σ H E I (i E σ H q)⟩
theorem PSs.imp {X : Cx} {s : List Stmt} {t t' : TS} (h : PSs X s t) (i : ∀ E σ H, t' E σ H → t E σ H) : PSs X s t' := ⟨fun pins s σ H E I q => h.run pins s σ H E I (i E σ H q)⟩
theorem tS_toS {α β : Type} {Γ : Gm} {Rel : List Addr → Hp → α → β → Prop} {W : WX} {x : Env → Mem → Res α} {k : Env → α → Mem → RS} {E : Ends} {σ : L2.St} {H : Hp}
    (h : tS Γ W (fun ρ st => (x ρ st).toS ρ (k ρ)) E σ H) : tG Γ Rel W x σ H (fun v H1 => ∃ mp1 st1 ρ a, RelM Γ mp1 H1 st1 ∧ RelE Γ mp1 H1 ρ σ ∧ Rel mp1 H1 a v ∧ PostS Γ mp1 H1 (k ρ a st1) E W) := by
  obtain ⟨mp, st, ρ, R, re, P⟩ := h
  exact ⟨mp, st, ρ, R, re, (P.toS re).mono fun v H1 ⟨mp1, st1, a, _, e, R1, r, re1, P1⟩ => ⟨mp1, st1, ρ, a, R1, re1, r, P1⟩⟩
/-- .. from a known state -/
theorem tG_toS {α β : Type} {Γ : Gm} {Rel : List Addr → Hp → α → β → Prop} {W : WX} {x : Env → Mem → Res α} {k : α → Mem → RS} {E : Ends} {σ : L2.St} {H : Hp} {ρ : Env} {st : Mem} {mp : List Addr}
    (R : RelM Γ mp H st) (re : RelE Γ mp H ρ σ) (P : PostS Γ mp H ((x ρ st).toS ρ k) E W) :
    tG Γ Rel W x σ H (fun v H1 => ∃ mp1 st1 a, x ρ st = .ok a st1 ∧ Ext mp H mp1 H1 ∧ RelM Γ mp1 H1 st1 ∧ RelE Γ mp1 H1 ρ σ ∧ Rel mp1 H1 a v ∧ PostS Γ mp1 H1 (k a st1) E W) :=
  ⟨mp, st, ρ, R, re, (P.toS re).mono fun v H1 ⟨mp1, st1, a, q, e, R1, r, re1, P1⟩ => ⟨mp1, st1, a, q, e, R1, re1, r, P1⟩⟩

section
variable {X : Cx} {s : Stmt} {ss : List Stmt} {m n : MS} {e : Expr} {me : ME} {pos : Pos} {mb : MB}
def sNil : MS := fun ρ st => .nx ρ st
def sSeq (m n : MS) : MS := fun ρ st => (m ρ st).seq n
theorem post_nx {Γ : Gm} {mp : List Addr} {H : Hp} {ρ : Env} {st : Mem} {σ : L2.St} {E : Ends} {W : WX} (P : PostS Γ mp H (.nx ρ st) E W) (R : RelM Γ mp H st) (re : RelE Γ mp H ρ σ) : E.nx σ H := P mp H σ (Ext.refl _ _) R re
theorem ss_nil : SSs X [] sNil := ⟨fun W tk => PSs.imp pss_nil fun E σ H ⟨mp, st, ρ, R, re, P⟩ => post_nx P R re⟩
/-- the first one's ends, with the rest behind -/
theorem PostS.seq {Γ : Gm} {mp : List Addr} {H : Hp} {r : RS} {E : Ends} {W : WX} {k : MS} (P : PostS Γ mp H (r.seq k) E W) : PostS Γ mp H r { E with nx := tS Γ W k E } W := by
  cases r with
  | nx ρ st => exact fun m2 H2 σ2 e2 R re => ⟨m2, st, ρ, R, re, PostS.ext (r := k ρ st) P e2⟩
  | bk => exact P
  | ct => exact P
  | rt => exact P
  | exc => exact P
  | bad => exact P
theorem ss_cons (h1 : SS X s m) (h2 : SSs X ss n) : SSs X (s :: ss) (sSeq m n) := ⟨fun W tk => PSs.imp (pss_cons (h1.run W tk) (h2.run W tk)) fun E σ H ⟨mp, st, ρ, R, re, P⟩ => ⟨mp, st, ρ, R, re, P.seq⟩⟩
theorem ss_one (h1 : SS X s m) : SSs X [s] m := ⟨fun W tk => pss_one (h1.run W tk)⟩
theorem s_pass : SS X (.Pass pos) sNil := ⟨fun W tk => PS.imp ps_pass fun E σ H ⟨mp, st, ρ, R, re, P⟩ => post_nx P R re⟩
def sBreak : MS := fun ρ st => .bk ρ st
def sCont : MS := fun ρ st => .ct ρ st
theorem s_break : SS X (.Break pos) sBreak := ⟨fun W tk => PS.imp ps_break fun E σ H ⟨mp, st, ρ, R, re, P⟩ => P mp H σ (Ext.refl _ _) R re⟩
theorem s_cont : SS X (.Continue pos) sCont := ⟨fun W tk => PS.imp ps_continue fun E σ H ⟨mp, st, ρ, R, re, P⟩ => P mp H σ (Ext.refl _ _) R re⟩
def sDrop (m : ME) : MS := fun ρ st => (m ρ st).toS ρ fun _ st1 => .nx ρ st1
theorem s_expr (he : SE X e me) (hs : swapsWith e none pos.line X.env = pure false := by rfl) : SS X (.Expr e pos) (sDrop me) := ⟨fun W tk => PS.imp (ps_expr (he.run W tk) hs) fun E σ H q => by
  obtain ⟨mp, st, ρ, R, re, P⟩ := tS_toS (Rel := Rv (gm X)) (x := me) (k := fun ρ _ st1 => .nx ρ st1) q
  exact ⟨mp, st, ρ, R, re, P.mono fun x H1 ⟨mp1, st1, ρ1, d, R1, re1, r1, P1⟩ => post_nx P1 R1 re1⟩⟩
def sRet (m : ME) : MS := fun ρ st => (m ρ st).toS ρ fun d st1 => .rt d st1
theorem s_ret (he : SE X e me) : SS X (.Return (some e) pos) (sRet me) := ⟨fun W tk => PS.imp (ps_ret (he.run W tk)) fun E σ H q => by
  obtain ⟨mp, st, ρ, R, re, P⟩ := tS_toS (Rel := Rv (gm X)) (x := me) (k := fun ρ d st1 => .rt d st1) q
  exact ⟨mp, st, ρ, R, re, P.mono fun x H1 ⟨mp1, st1, ρ1, d, R1, re1, r1, P1⟩ => P1 mp1 H1 x (Ext.refl _ _) R1 r1⟩⟩
def sRetN : MS := fun _ st => .rt .non st
theorem s_retN : SS X (.Return none pos) sRetN := ⟨fun W tk => PS.imp ps_retN fun E σ H ⟨mp, st, ρ, R, re, P⟩ => P mp H .non (Ext.refl _ _) R (by simp [Rv])⟩
def sIf (c : MB) (m n : MS) : MS := fun ρ st => (c ρ st).toS ρ fun b st1 => if b = true then m ρ st1 else n ρ st1
theorem s_if {c : Expr} {a b : List Stmt} (hc : ST X c mb) (ha : SSs X a m) (hb : SSs X b n) : SS X (.If c a b pos) (sIf mb m n) := ⟨fun W tk => PS.imp (ps_if (hc.run W tk) (ha.run W tk) (hb.run W tk)) fun E σ H q => by
  obtain ⟨mp, st, ρ, R, re, P⟩ := tS_toS (Rel := RB) (x := mb) (k := fun ρ b st1 => if b = true then m ρ st1 else n ρ st1) q
  refine ⟨mp, st, ρ, R, re, P.mono fun x H1 ⟨mp1, st1, ρ1, d, R1, re1, r1, P1⟩ => ?_⟩
  cases r1
  cases x with
  | true => exact ⟨mp1, st1, ρ1, R1, re1, P1⟩
  | false => exact ⟨mp1, st1, ρ1, R1, re1, P1⟩⟩
end

/-! ### targets -/
abbrev MG := D → Env → Mem → RS
def PostN (Γ : Gm) (mp : List Addr) (H : Hp) (vs : List Nat) (σ : L2.St) (r : RS) (Q : L2.St → Hp → Prop) : Prop :=
  match r with
  | .nx ρ' st' => ∀ mp' H' σ', Ext mp H mp' H' → RelM Γ mp' H' st' → RelE Γ mp' H' ρ' σ' → σ'.length = σ.length → (∀ j : Nat, j ∉ vs → σ'[j]? = σ[j]?) → Q σ' H'
  | _ => False
theorem PostN.ext {Γ : Gm} {mp mp' : List Addr} {H H' : Hp} {vs : List Nat} {σ : L2.St} {r : RS} {Q : L2.St → Hp → Prop} (h : PostN Γ mp H vs σ r Q) (e : Ext mp H mp' H') : PostN Γ mp' H' vs σ r Q := by
  cases r with
  | nx => exact fun m2 H2 v e2 => h m2 H2 v (e.trans e2)
  | _ => exact h
def tN (Γ : Gm) (vs : List Nat) (g : MG) : TG := fun x σ H Q => ∃ mp st ρ d, RelM Γ mp H st ∧ RelE Γ mp H ρ σ ∧ Rv Γ mp H d x ∧ PostN Γ mp H vs σ (g d ρ st) Q
/-- a target, that stores at the slots vs at most -/
structure SG (X : Cx) (tg : Expr) (vs : List Nat) (g : MG) : Prop where
  run : PG X tg (tN (gm X) vs g)
structure SGs (X : Cx) (ts : List Expr) (vs : List Nat) (g : List D → Env → Mem → RS) : Prop where
  run : PGs X ts (fun xs σ H Q => ∃ mp st ρ ds, RelM (gm X) mp H st ∧ RelE (gm X) mp H ρ σ ∧ RvL (gm X) mp H ds xs ∧ PostN (gm X) mp H vs σ (g ds ρ st) Q)
theorem PG.imp {X : Cx} {e : Expr} {t t' : TG} (h : PG X e t) (i : ∀ x σ H Q, t' x σ H Q → t x σ H Q) : PG X e t' := ⟨fun pins s σ H v u Q I r q => h.run pins s σ H v u Q I r (i v σ H Q q)⟩
theorem PGs.imp {X : Cx} {e : List Expr} {t t' : TGs} (h : PGs X e t) (i : ∀ x σ H Q, t' x σ H Q → t x σ H Q) : PGs X e t' := ⟨fun pins s σ H v u Q I r q => h.run pins s σ H v u Q I r (i v σ H Q q)⟩
theorem PG.or {X : Cx} {e : Expr} {t t' : TG} (h : PG X e t) (h' : PG X e t') : PG X e (fun x σ H Q => t x σ H Q ∨ t' x σ H Q) := ⟨fun pins s σ H v u Q I r q => q.elim (h.run pins s σ H v u Q I r) (h'.run pins s σ H v u Q I r)⟩
section
variable {X : Cx} {pos : Pos}
def gNm (i : Nat) : MG := fun d ρ st => .nx (ρ.set i (some d)) st
theorem sg_name {i : Nat} {x : Str} (hN : X.N.Nodup) (hi : X.N[i]? = some x) (hx : Loc X.env.scope x) (hf : X.fn x = true ∨ X.env.scope.names.lookup x = some .local := by first | exact .inl rfl | exact .inr rfl | assumption) : SG X (.Name x pos) [i] (gNm i) :=
  ⟨PG.imp (pg_name hN hi hx hf) fun x σ H Q ⟨mp, st, ρ, d, R, re, r, P⟩ => P mp H _ (Ext.refl _ _) R (re.set i r) (by simp) fun j hj => List.getElem?_set_ne (fun z => hj (by simp [z]))⟩
def gsNil : List D → Env → Mem → RS := fun ds ρ st => match ds with
  | [] => .nx ρ st
  | _ => .bad
def gsCons (g : MG) (h : List D → Env → Mem → RS) : List D → Env → Mem → RS := fun ds ρ st => match ds with
  | d :: ds => match g d ρ st with
    | .nx ρ1 st1 => h ds ρ1 st1
    | _ => .bad
  | [] => .bad
theorem sgs_nil : SGs X [] [] gsNil := ⟨PGs.imp pgs_nil fun xs σ H Q ⟨mp, st, ρ, ds, R, re, r, P⟩ => by
  cases ds with
  | nil => simp only [RvL] at r; exact ⟨r, P mp H σ (Ext.refl _ _) R re rfl fun _ _ => rfl⟩
  | cons d ds => exact P.elim⟩
theorem sgs_cons {e : Expr} {es : List Expr} {vs us : List Nat} {g : MG} {h : List D → Env → Mem → RS} (h1 : SG X e vs g) (h2 : SGs X es us h)
    (hs : (assignEach (e :: es) X.env).map (·.2) = assign e X.env :: (assignEach es X.env).map (·.2) := by rfl) : SGs X (e :: es) (vs ++ us) (gsCons g h) := ⟨PGs.imp (pgs_cons h1.run h2.run hs) fun xs σ H Q ⟨mp, st, ρ, ds, R, re, r, P⟩ => by
  cases ds with
  | nil => exact P.elim
  | cons d ds =>
    simp only [RvL] at r
    obtain ⟨v, xr, rfl, r1, r2⟩ := r
    refine ⟨v, xr, rfl, mp, st, ρ, d, R, re, r1, ?_⟩
    unfold gsCons at P
    cases e1 : g d ρ st with
    | nx ρ1 st1 =>
      simp only [e1] at P
      intro mp' H' σ' x1 R1 re1 l1 k1
      refine ⟨mp', st1, ρ1, ds, R1, re1, RvL.ext x1 _ _ r2, ?_⟩
      have P1 := PostN.ext (r := h ds ρ1 st1) P x1
      cases e2 : h ds ρ1 st1 with
      | nx ρ2 st2 =>
        rw [e2] at P1
        intro mp2 H2 σ2 x2 R2 re2 l2 k2
        exact P1 mp2 H2 σ2 x2 R2 re2 (l2.trans l1) fun j hj => by
          simp only [List.mem_append, not_or] at hj
          exact (k2 j hj.2).trans (k1 j hj.1)
      | _ => rw [e2] at P1; exact P1.elim
    | _ => simp only [e1] at P; exact P.elim⟩
def gTp (n : Nat) (h : List D → Env → Mem → RS) : MG := fun d ρ st => match seqD d st with
  | some ds => if ds.length = n then h ds ρ st else .bad
  | none => .bad
theorem sg_tup {es : List Expr} {k : Nat} {vs : List Nat} {h : List D → Env → Mem → RS} {n : Nat} (hc : X.calm = true) (hh : SGs X es vs h)
    (hn : (assignEach es X.env).length = n := by rfl) (hst : (assignEach es X.env).findIdx? (·.1) = none := by rfl) : SG X (.Tuple es k pos) vs (gTp n h) :=
  ⟨PG.imp (PG.or (pg_tup hc hh.run hn hst) (pg_lst hc hh.run hn hst)) fun x σ H Q ⟨mp, st, ρ, d, R, re, r, P⟩ => by
    unfold gTp at P
    split at P
    · rename_i ds hs
      obtain ⟨a, us, rfl, ha, ra⟩ := seqD_of R r hs
      split at P
      · rename_i hl
        rcases ha with ha | ha
        · exact .inr ⟨a, us, rfl, ha, by rw [← ra.length]; exact hl, mp, st, ρ, ds, R, re, ra, P⟩
        · exact .inl ⟨a, us, rfl, ha, by rw [← ra.length]; exact hl, mp, st, ρ, ds, R, re, ra, P⟩
      · exact P.elim
    · exact P.elim⟩
end

/-! ### assignments -/
section
variable {X : Cx} {e tg : Expr} {me : ME} {g : MG} {vs : List Nat} {pos : Pos}
def sAsg (m : ME) (g : MG) : MS := fun ρ st => (m ρ st).toS ρ fun d st1 => match g d ρ st1 with
  | .nx ρ1 st2 => .nx ρ1 st2
  | _ => .bad
theorem postN_of {Γ : Gm} {mp : List Addr} {H : Hp} {σ : L2.St} {r : RS} {E : Ends} {W : WX} (P : PostS Γ mp H (match r with | .nx ρ1 st2 => .nx ρ1 st2 | _ => .bad) E W) : PostN Γ mp H vs σ r E.nx := by
  cases r with
  | nx ρ st => exact fun m2 H2 σ2 x R re _ _ => P m2 H2 σ2 x R re
  | _ => exact P.elim
theorem tAsg_of {Γ : Gm} {W : WX} {E : Ends} {σ : L2.St} {H : Hp} (q : tS Γ W (sAsg me g) E σ H) : tAsg (tE Γ W me) (tN Γ vs g) E σ H := by
  obtain ⟨mp, st, ρ, R, re, P⟩ := tS_toS (Rel := Rv Γ) (x := me) (k := fun ρ d st1 => match g d ρ st1 with | .nx ρ1 st2 => .nx ρ1 st2 | _ => .bad) q
  exact ⟨mp, st, ρ, R, re, P.mono fun x H1 ⟨mp1, st1, ρ1, d, R1, re1, r1, P1⟩ => ⟨mp1, st1, ρ1, d, R1, re1, r1, postN_of P1⟩⟩
theorem s_asg (he : SE X e me) (hg : SG X tg vs g) (hs : swapsWithSole [tg] e pos.line X.env = pure false := by rfl) (hw : swappedStores [tg] e X.env = pure none := by rfl)
    (h1 : (assignEach [tg] X.env).map (·.2) = [assign tg X.env] := by rfl) : SS X (.Assign [tg] e pos) (sAsg me g) := ⟨fun W tk => PS.imp (ps_asg (he.run W tk) hg.run hs hw h1) fun E σ H q => tAsg_of q⟩
def sSet (i : Nat) (m : ME) : MS := fun ρ st => (m ρ st).toS ρ fun d st1 => .nx (ρ.set i (some d)) st1
theorem s_set {i : Nat} {x : Str} {pos' : Pos} (hN : X.N.Nodup) (hi : X.N[i]? = some x) (hx : Loc X.env.scope x) (he : SE X e me) (hs : swapsWith e (some (.Name x pos')) pos.line X.env = pure false := by rfl)
    (hf : X.fn x = true ∨ X.env.scope.names.lookup x = some .local := by first | exact .inl rfl | exact .inr rfl | assumption) : SS X (.Assign [.Name x pos'] e pos) (sSet i me) := ⟨fun W tk => PS.imp (ps_set hN hi hx (he.run W tk) hs hf) fun E σ H q => by
  obtain ⟨mp, st, ρ, R, re, P⟩ := tS_toS (Rel := Rv (gm X)) (x := me) (k := fun ρ d st1 => .nx (ρ.set i (some d)) st1) q
  exact ⟨mp, st, ρ, R, re, P.mono fun x H1 ⟨mp1, st1, ρ1, d, R1, re1, r1, P1⟩ => P1 mp1 H1 _ (Ext.refl _ _) R1 (re1.set i r1)⟩⟩
/-- a, b = x, y of plain locals -/
def sPar (i j : Nat) (ma mb : ME) : MS := fun ρ st => (ma ρ st).toS ρ fun d st1 => (mb ρ st1).toS ρ fun e st2 => .nx ((ρ.set i (some d)).set j (some e)) st2
theorem s_par {i j : Nat} {x y : Str} {a b : Expr} {ma mb : ME} {px py pt : Pos} {kt k2 : Nat} {pt2 : Pos} (hc : X.calm = true) (hN : X.N.Nodup) (hi : X.N[i]? = some x) (hj : X.N[j]? = some y) (hij : i ≠ j)
    (hx : X.env.scope.names.lookup x = some .local) (hy : X.env.scope.names.lookup y = some .local) (ha : SE X a ma) (hb : SE X b mb)
    (hw : swappedStores [.Tuple [.Name x px, .Name y py] kt pt] (.Tuple [a, b] k2 pt2) X.env = pure (some [x, y]))
    (hs : swapsWithSole [.Tuple [.Name x px, .Name y py] kt pt] (.Tuple [a, b] k2 pt2) pos.line X.env = pure false := by rfl)
    (h1 : starEach [a, b] X.env = (false, eval a X.env) :: starEach [b] X.env := by rfl) (h2 : starEach [b] X.env = (false, eval b X.env) :: starEach [] X.env := by rfl) :
    SS X (.Assign [.Tuple [.Name x px, .Name y py] kt pt] (.Tuple [a, b] k2 pt2) pos) (sPar i j ma mb) := ⟨fun W tk => PS.imp (ps_par hc hN hi hj hij hx hy (pa_cons (ha.run W tk) (pa_cons (hb.run W tk) pa_nil h2) h1) hw hs) fun E σ H q => by
  obtain ⟨mp, st, ρ, R, re, P⟩ := tS_toS (Rel := Rv (gm X)) (x := ma) (k := fun ρ d st1 => (mb ρ st1).toS ρ fun e st2 => .nx ((ρ.set i (some d)).set j (some e)) st2) q
  refine ⟨mp, st, ρ, R, re, P.mono fun x H1 ⟨mp1, st1, ρ1, d, R1, re1, r1, P1⟩ => ?_⟩
  obtain ⟨mp2, st2, ρ2, R2, re2, P2⟩ := tG_toS (Rel := Rv (gm X)) (x := mb) R1 re1 P1
  refine ⟨mp2, st2, ρ2, R2, re2, P2.mono fun y H2 ⟨mp3, st3, e, _, x3, R3, re3, r3, P3⟩ => ?_⟩
  exact ⟨x, y, rfl, P3 mp3 H2 _ (Ext.refl _ _) R3 ((re3.set i (Rv.ext x3 _ _ r1)).set j r3)⟩⟩
end

/-! ### what is walked -/
def WalkRel (Γ : Gm) (mp : List Addr) (H : Hp) (ds : List D) (J : It) : Prop := ∃ (G : Hp → Prop) (Y : Nat → Hp → V → Hp → Prop), Walk J ds.length G Y ∧ (∀ mp' H', Ext mp H mp' H' → G H') ∧
  ∀ mp' H' st' i x H'', Ext mp H mp' H' → RelM Γ mp' H' st' → i < ds.length → Y i H' x H'' → (∀ a o, H' a = some o → H'' a = some o) ∧ ∃ d, ds[i]? = some d ∧ Rv Γ mp' H'' d x
theorem WalkRel.ext {Γ : Gm} {mp mp' : List Addr} {H H' : Hp} {ds : List D} {J : It} (h : WalkRel Γ mp H ds J) (e : Ext mp H mp' H') : WalkRel Γ mp' H' ds J := by
  obtain ⟨G, Y, w, g, y⟩ := h
  exact ⟨G, Y, w, fun m2 H2 e2 => g m2 H2 (e.trans e2), fun m2 H2 st2 i x H3 e2 => y m2 H2 st2 i x H3 (e.trans e2)⟩
structure SI (X : Cx) (tg iter : Expr) (mi : ML) : Prop where
  run : ∀ W, Takes X W → PI X tg iter (tG (gm X) (WalkRel (gm X)) W mi)
theorem PI.imp {X : Cx} {tg e : Expr} {t t' : TI} (h : PI X tg e t) (i : ∀ σ H Q, t' σ H Q → t σ H Q) : PI X tg e t' := ⟨fun pins s σ H Q I q => h.run pins s σ H Q I (i σ H Q q)⟩
theorem PI.or {X : Cx} {tg e : Expr} {t t' : TI} (h : PI X tg e t) (h' : PI X tg e t') : PI X tg e (fun σ H Q => t σ H Q ∨ t' σ H Q) := ⟨fun pins s σ H Q I q => q.elim (h.run pins s σ H Q I) (h'.run pins s σ H Q I)⟩
/-- a list that stands still, a tuple -/
theorem walk_lst {Γ : Gm} {mp : List Addr} {H : Hp} {a : Addr} {vs : List V} {ds : List D} (hl : ∀ mp' H', Ext mp H mp' H' → SqL Γ.K H' a vs) (r : RvL Γ mp H ds vs) : WalkRel Γ mp H ds (Itl Γ.K a) :=
  ⟨_, _, by rw [r.length]; exact walk_list (xs := vs), hl, fun mp' H' st' i x H'' e _ hi y => by
    obtain ⟨rfl, hx⟩ := y
    obtain ⟨d, h1, h2⟩ := r.getV hx
    exact ⟨fun _ _ z => z, d, h1, Rv.ext e _ _ h2⟩⟩
theorem walk_tp {Γ : Gm} {mp : List Addr} {H : Hp} {a : Addr} {vs : List V} {ds : List D} (hl : ∀ mp' H', Ext mp H mp' H' → SqT Γ.K H' a vs) (r : RvL Γ mp H ds vs) : WalkRel Γ mp H ds (Itt Γ.K a) :=
  ⟨_, _, by rw [r.length]; exact walk_tup (xs := vs), hl, fun mp' H' st' i x H'' e _ hi y => by
    obtain ⟨rfl, hx⟩ := y
    obtain ⟨d, h1, h2⟩ := r.getV hx
    exact ⟨fun _ _ z => z, d, h1, Rv.ext e _ _ h2⟩⟩
/-- the frozen ones -/
def frzD : D → Option (List D)
  | .tup xs => some xs
  | .kt xs => some xs
  | .lst xs => some xs
  | .fz xs => some xs
  | _ => none
def mIt (m : ME) : ML := fun ρ st => (m ρ st).bind fun d st1 => match frzD d with
  | some xs => .ok xs st1
  | none => .bad
section
variable {X : Cx} {tg e e2 : Expr} {m : ME} {pos p tpos : Pos}
theorem frz_walk {Γ : Gm} {mp : List Addr} {H : Hp} {d : D} {x : V} {xs : List D} (h : Rv Γ mp H d x) (e : frzD d = some xs) :
    ∃ a vs, x = .ref a ∧ RvL Γ mp H xs vs ∧ ((∀ mp' H', Ext mp H mp' H' → SqL Γ.K H' a vs) ∨ (∀ mp' H', Ext mp H mp' H' → SqT Γ.K H' a vs)) := by
  cases d with
  | tup ys => simp only [frzD, Option.some.injEq] at e; subst e; simp only [Rv] at h; obtain ⟨a, vs, rfl, q, r⟩ := h; exact ⟨a, vs, rfl, r, .inr fun _ _ e => (q.ext e).sq⟩
  | kt ys => simp only [frzD, Option.some.injEq] at e; subst e; simp only [Rv] at h; obtain ⟨a, vs, rfl, q, r⟩ := h; exact ⟨a, vs, rfl, r, .inr fun _ _ e => (q.ext e).sq⟩
  | lst ys => simp only [frzD, Option.some.injEq] at e; subst e; simp only [Rv] at h; obtain ⟨a, vs, rfl, q, r⟩ := h; exact ⟨a, vs, rfl, r, .inl fun _ _ e => (q.ext e).sq⟩
  | fz ys => simp only [frzD, Option.some.injEq] at e; subst e; simp only [Rv] at h; obtain ⟨a, vs, rfl, q, r⟩ := h; exact ⟨a, vs, rfl, r, .inl fun _ _ e => (q.ext e).sq⟩
  | _ => simp [frzD] at e
theorem si_seq (he : SE X e m) : SI X tg e (mIt m) := ⟨fun W tk => PI.imp (PI.or (pi_list (he.run W tk)) (pi_tup (he.run W tk))) fun σ H Q q => by
  obtain ⟨mp, st, ρ, R, re, P⟩ := q
  have P2 := PostG.bind' (Rel := Rv (gm X)) P
  cases em : m ρ st with
  | bad => rw [em] at P2; exact P2.elim
  | exc x s => rw [em] at P2; exact .inl ⟨mp, st, ρ, R, re, by rw [em]; exact P2⟩
  | ok d st1 =>
    rw [em] at P2
    -- which of the two it is hangs on d alone
    cases ef : frzD d with
    | none => exact .inl ⟨mp, st, ρ, R, re, by
        rw [em]
        intro mp' H' v x1 R1 r1
        obtain ⟨_, _, _, h1, _, _, _, P3⟩ := P2 mp' H' v x1 R1 r1
        cases h1
        simp only [ef] at P3
        exact P3.elim⟩
    | some xs =>
      cases d with
      | tup ys =>
        cases ef
        refine .inr ⟨mp, st, ρ, R, re, ?_⟩
        rw [em]
        intro mp' H' v x1 R1 r1
        obtain ⟨mp2, _, _, h1, x2, R2, r2, P3⟩ := P2 mp' H' v x1 R1 r1
        cases h1
        simp only [Rv] at r2
        obtain ⟨a, vs, rfl, q, r⟩ := r2
        exact ⟨a, rfl, ⟨vs, q.sq⟩, P3 mp2 H' _ (Ext.refl _ _) R2 (walk_tp (fun _ _ e => (q.ext e).sq) r)⟩
      | kt ys =>
        cases ef
        refine .inr ⟨mp, st, ρ, R, re, ?_⟩
        rw [em]
        intro mp' H' v x1 R1 r1
        obtain ⟨mp2, _, _, h1, x2, R2, r2, P3⟩ := P2 mp' H' v x1 R1 r1
        cases h1
        simp only [Rv] at r2
        obtain ⟨a, vs, rfl, q, r⟩ := r2
        exact ⟨a, rfl, ⟨vs, q.sq⟩, P3 mp2 H' _ (Ext.refl _ _) R2 (walk_tp (fun _ _ e => (q.ext e).sq) r)⟩
      | lst ys =>
        cases ef
        refine .inl ⟨mp, st, ρ, R, re, ?_⟩
        rw [em]
        intro mp' H' v x1 R1 r1
        obtain ⟨mp2, _, _, h1, x2, R2, r2, P3⟩ := P2 mp' H' v x1 R1 r1
        cases h1
        simp only [Rv] at r2
        obtain ⟨a, vs, rfl, q, r⟩ := r2
        exact ⟨a, rfl, ⟨vs, q.sq⟩, P3 mp2 H' _ (Ext.refl _ _) R2 (walk_lst (fun _ _ e => (q.ext e).sq) r)⟩
      | fz ys =>
        cases ef
        refine .inl ⟨mp, st, ρ, R, re, ?_⟩
        rw [em]
        intro mp' H' v x1 R1 r1
        obtain ⟨mp2, _, _, h1, x2, R2, r2, P3⟩ := P2 mp' H' v x1 R1 r1
        cases h1
        simp only [Rv] at r2
        obtain ⟨a, vs, rfl, q, r⟩ := r2
        exact ⟨a, rfl, ⟨vs, q.sq⟩, P3 mp2 H' _ (Ext.refl _ _) R2 (walk_lst (fun _ _ e => (q.ext e).sq) r)⟩
      | _ => simp [frzD] at ef⟩
/-- range(n), range(a, b) -/
def rangeL (a : Int) (n : Nat) : List D := (List.range n).map fun i => D.int (a + (i : Nat))
def big62 (i : Int) : Bool := decide (-4611686018427387904 ≤ i) && decide (i < 4611686018427387904)
def mRng1 (m : ME) : ML := fun ρ st => (m ρ st).bind fun d st1 => match d with
  | .int n => if big62 n = true then .ok (rangeL 0 n.toNat) st1 else .bad
  | _ => .bad
def mRng2 (m n : ME) : ML := fun ρ st => (m ρ st).bind fun d st1 => (n ρ st1).bind fun e st2 => match d, e with
  | .int a, .int b => if big62 a = true ∧ big62 b = true then .ok (rangeL a (b - a).toNat) st2 else .bad
  | _, _ => .bad
theorem big62_ok {i : Int} (h : big62 i = true) : -(2 ^ 62) ≤ i ∧ i < 2 ^ 62 := by
  simp only [big62, Bool.and_eq_true, decide_eq_true_eq] at h
  exact ⟨by omega, by omega⟩
theorem walk_rng {Γ : Gm} {mp : List Addr} {H : Hp} (a : Int) (n : Nat) : WalkRel Γ mp H (rangeL a n) (Itr a n) :=
  ⟨_, _, by simp only [rangeL, List.length_map, List.length_range]; exact walk_range, fun _ _ _ => trivial, fun mp' H' st' i x H'' e _ hi y => by
    obtain ⟨rfl, rfl⟩ := y
    simp only [rangeL, List.length_map, List.length_range] at hi
    exact ⟨fun _ _ z => z, .int (a + (i : Nat)), by simp [rangeL, hi], by simp [Rv]⟩⟩
theorem si_range1 (he : SE X e m) (hg : Gl X "range") (hm : X.mg "range" = none) (hs : starEach [e] X.env = [(false, eval e X.env)] := by rfl) : SI X tg (.Call (.Name "range" p) [e] [] pos) (mRng1 m) :=
  ⟨fun W tk => PI.imp (pi_range1 hg hm (pa_cons (he.run W tk) pa_nil hs) hs) fun σ H Q q => by
    obtain ⟨mp, st, ρ, R, re, P⟩ := tG_bind (Rel := Rv (gm X)) (m := m) (k := fun _ d st1 => match d with | .int n => if big62 n = true then .ok (rangeL 0 n.toNat) st1 else .bad | _ => .bad) q
    refine ⟨mp, st, ρ, R, re, P.mono fun x H1 ⟨mp1, st1, ρ1, d, R1, re1, r1, P1⟩ => ?_⟩
    cases d with
    | int n =>
      simp only [Rv] at r1; subst r1
      dsimp only at P1
      split at P1
      · rename_i hb
        obtain ⟨h1, h2⟩ := big62_ok hb
        exact ⟨n, rfl, h1, h2, P1 mp1 H1 _ (Ext.refl _ _) R1 (walk_rng 0 _)⟩
      · exact P1.elim
    | _ => exact P1.elim⟩
theorem si_range2 {n : ME} (he : SE X e m) (he2 : SE X e2 n) (hg : Gl X "range") (hm : X.mg "range" = none) (hs : starEach [e, e2] X.env = [(false, eval e X.env), (false, eval e2 X.env)] := by rfl) (hs2 : starEach [e2] X.env = [(false, eval e2 X.env)] := by rfl) :
    SI X tg (.Call (.Name "range" p) [e, e2] [] pos) (mRng2 m n) :=
  ⟨fun W tk => PI.imp (pi_range2 hg hm (pa_cons (he.run W tk) (pa_cons (he2.run W tk) pa_nil hs2) (by rw [hs, hs2])) hs hs2) fun σ H Q q => by
    obtain ⟨mp, st, ρ, R, re, P⟩ := tG_bind (Rel := Rv (gm X)) (m := m) (k := fun ρ d st1 => (n ρ st1).bind fun e st2 => match d, e with | .int a, .int b => if big62 a = true ∧ big62 b = true then .ok (rangeL a (b - a).toNat) st2 else .bad | _, _ => .bad) q
    refine ⟨mp, st, ρ, R, re, P.mono fun x H1 ⟨mp1, st1, ρ1, d, R1, re1, r1, P1⟩ => ?_⟩
    obtain ⟨mp2, st2, ρ2, R2, re2, P2⟩ := tG_bindK (Rel := Rv (gm X)) (m := n) R1 re1 P1
    refine ⟨mp2, st2, ρ2, R2, re2, P2.mono fun y H2 ⟨mp3, st3, e, _, x3, R3, re3, r3, P3⟩ => ?_⟩
    cases d with
    | int a =>
      cases e with
      | int b =>
        simp only [Rv] at r1 r3; subst r1 r3
        dsimp only at P3
        split at P3
        · rename_i hb
          obtain ⟨h1, h2⟩ := big62_ok hb.1
          obtain ⟨h3, h4⟩ := big62_ok hb.2
          exact ⟨a, b, rfl, ⟨h1, h2, h3, h4⟩, P3 mp3 H2 _ (Ext.refl _ _) R3 (walk_rng a _)⟩
        · exact P3.elim
      | _ => exact P3.elim
    | _ => exact P3.elim⟩
end

/-! ### for -/
def forL : List D → (D → Env → Mem → RS) → Env → Mem → RS
  | [], _, ρ, st => .nx ρ st
  | d :: ds, f, ρ, st => match f d ρ st with
    | .nx ρ' st' => forL ds f ρ' st'
    | .ct ρ' st' => forL ds f ρ' st'
    | .bk ρ' st' => .nx ρ' st'
    | r => r
def stepF (g : MG) (b : MS) : D → Env → Mem → RS := fun d ρ st => match g d ρ st with
  | .nx ρ1 st1 => b ρ1 st1
  | _ => .bad
def sFor (mi : ML) (g : MG) (b : MS) : MS := fun ρ st => (mi ρ st).toS ρ fun ds st1 => forL ds (stepF g b) ρ st1
section
variable {X : Cx} {tg iter : Expr} {body : List Stmt} {mi : ML} {g : MG} {vs : List Nat} {b : MS} {pos : Pos} {k : Nat}
theorem s_for (c : XC k X) (hi : SI X tg iter mi) (hg : SG X tg vs g) (hb : SSs X body b) (hs : ∀ x, foldedSetIterable iter X.env x = pure x := by intro _; rfl) : SS X (.For tg iter body [] pos) (sFor mi g b) :=
  ⟨fun W tk => PS.imp (ps_for c.po c.calm (hi.run W tk) hg.run (hb.run W tk) hs) fun E σ H q => by
    obtain ⟨mp, st, ρ, R, re, P⟩ := tS_toS (Rel := WalkRel (gm X)) (x := mi) (k := fun ρ ds st1 => forL ds (stepF g b) ρ st1) q
    refine ⟨mp, st, ρ, R, re, P.mono fun J H1 ⟨mp1, st1, ρ1, ds, R1, re1, w1, P1⟩ => ?_⟩
    obtain ⟨G, Y, w, hG, hY⟩ := w1
    refine for_it w (fun i σ2 H2 => ∃ mp2 st2 ρ2, Ext mp1 H1 mp2 H2 ∧ RelM (gm X) mp2 H2 st2 ∧ RelE (gm X) mp2 H2 ρ2 σ2 ∧ PostS (gm X) mp2 H2 (forL (ds.drop i) (stepF g b) ρ2 st2) E W)
      ⟨mp1, st1, ρ1, Ext.refl _ _, R1, re1, P1⟩ (fun i σ2 H2 _ ⟨mp2, _, _, x2, _⟩ => hG mp2 H2 x2) (fun i x σ2 H2 H3 hlt ⟨mp2, st2, ρ2, x2, R2, re2, P2⟩ y => ?_) (fun σ2 H2 ⟨mp2, st2, ρ2, x2, R2, re2, P2⟩ => ?_)
    · obtain ⟨sm, d, hd, rd⟩ := hY mp2 H2 st2 i x H3 x2 R2 hlt y
      have ed : ds.drop i = d :: ds.drop (i + 1) := by rw [List.drop_eq_getElem_cons hlt]; congr 1; rw [List.getElem?_eq_getElem hlt] at hd; exact Option.some.inj hd
      rw [ed] at P2
      have x3 : Ext mp2 H2 mp2 H3 := ext_same sm
      have P3 := P2.ext x3
      refine ⟨mp2, st2, ρ2, d, R2.same sm, re2.ext x3, rd, ?_⟩
      unfold forL stepF at P3
      cases eg : g d ρ2 st2 with
      | nx ρ3 st3 =>
        simp only [eg] at P3
        intro mp4 H4 σ4 x4 R4 re4 _ _
        refine ⟨mp4, st3, ρ3, R4, re4, ?_⟩
        have P4 := P3.ext x4
        have xx : Ext mp1 H1 mp4 H4 := x2.trans (x3.trans x4)
        cases eb : b ρ3 st3 with
        | nx ρ5 st5 =>
          simp only [eb] at P4
          exact fun m6 H6 σ6 x6 R6 re6 => ⟨m6, st5, ρ5, xx.trans x6, R6, re6, P4.ext x6⟩
        | ct ρ5 st5 =>
          simp only [eb] at P4
          exact fun m6 H6 σ6 x6 R6 re6 => ⟨m6, st5, ρ5, xx.trans x6, R6, re6, P4.ext x6⟩
        | bk ρ5 st5 => simp only [eb] at P4; exact P4
        | rt d5 st5 => simp only [eb] at P4; exact P4
        | exc e5 ρ5 st5 => simp only [eb] at P4; exact P4
        | bad => simp only [eb] at P4; exact P4
      | _ => simp only [eg] at P3; exact P3.elim
    · rw [List.drop_length] at P2
      exact post_nx P2 R2 re2⟩
end
end VI
set_option maxHeartbeats 4000000
namespace VI
open PySem PySem.Spec PyProof.Rows L2

/-! ### equality of data and cells -/
mutual
def D.beq' : D → D → Bool
  | .non, .non => true
  | .bl a, .bl b => a == b
  | .int a, .int b => a == b
  | .str a, .str b => a == b
  | .tup a, .tup b => beqL a b
  | .lst a, .lst b => beqL a b
  | .dct k a, .dct l b => decide (k = l) && beqL a b
  | .loc a, .loc b => a == b
  | .gl a, .gl b => a == b
  | .fz a, .fz b => beqL a b
  | .kt a, .kt b => beqL a b
  | _, _ => false
def beqL : List D → List D → Bool
  | [], [] => true
  | x :: xs, y :: ys => x.beq' y && beqL xs ys
  | _, _ => false
end
mutual
theorem D.beq_iff : ∀ a b : D, a.beq' b = true ↔ a = b
  | .non, b => by cases b <;> simp [D.beq']
  | .bl a, b => by cases b <;> simp [D.beq']
  | .int a, b => by cases b <;> simp [D.beq']
  | .str a, b => by cases b <;> simp [D.beq']
  | .loc a, b => by cases b <;> simp [D.beq']
  | .gl a, b => by cases b <;> simp [D.beq']
  | .tup a, b => by cases b <;> simp [D.beq', beqL_iff a]
  | .lst a, b => by cases b <;> simp [D.beq', beqL_iff a]
  | .fz a, b => by cases b <;> simp [D.beq', beqL_iff a]
  | .kt a, b => by cases b <;> simp [D.beq', beqL_iff a]
  | .dct k a, b => by cases b <;> simp [D.beq', beqL_iff a]
theorem beqL_iff : ∀ a b : List D, beqL a b = true ↔ a = b
  | [], b => by cases b <;> simp [beqL]
  | x :: xs, b => by
    cases b with
    | nil => simp [beqL]
    | cons y ys => simp [beqL, D.beq_iff x, beqL_iff xs]
end
instance : DecidableEq D := fun a b => decidable_of_iff _ (D.beq_iff a b)
def Cell.beq' : Cell → Cell → Bool
  | .lst a, .lst b => decide (a = b)
  | .dK a, .dK b => decide (a = b)
  | .dT a, .dT b => decide (a = b)
  | .ins c a, .ins d b => decide (c = d) && decide (a = b)
  | .xo c a, .xo d b => decide (c = d) && decide (a = b)
  | .tmp, .tmp => true
  | _, _ => false
theorem Cell.beq_iff (a b : Cell) : a.beq' b = true ↔ a = b := by cases a <;> cases b <;> simp [Cell.beq']
instance : DecidableEq Cell := fun a b => decidable_of_iff _ (Cell.beq_iff a b)
mutual
/-- no cell from n on -/
def belowD (n : Nat) : D → Bool
  | .tup xs => belowL n xs
  | .kt xs => belowL n xs
  | .lst xs => belowL n xs
  | .fz xs => belowL n xs
  | .dct _ xs => belowL n xs
  | .loc k => decide (k < n)
  | _ => true
def belowL (n : Nat) : List D → Bool
  | [] => true
  | d :: ds => belowD n d && belowL n ds
end
mutual
theorem Rv.less {Γ : Gm} {mp r : List Addr} {H : Hp} : ∀ (d : D) (v : V), belowD mp.length d = true → Rv Γ (mp ++ r) H d v → Rv Γ mp H d v
  | .non, _, _, h => by simpa only [Rv] using h
  | .bl _, _, _, h => by simpa only [Rv] using h
  | .int _, _, _, h => by simpa only [Rv] using h
  | .str _, _, _, h => by simpa only [Rv] using h
  | .gl _, _, _, h => by simpa only [Rv] using h
  | .tup xs, v, b, h => by
    simp only [Rv, belowD] at h b ⊢
    obtain ⟨a, vs, h1, h2, h3⟩ := h
    exact ⟨a, vs, h1, ⟨h2.1, fun z => h2.2 (List.mem_append_left _ z)⟩, RvL.less xs vs b h3⟩
  | .lst xs, v, b, h => by
    simp only [Rv, belowD] at h b ⊢
    obtain ⟨a, vs, h1, h2, h3⟩ := h
    exact ⟨a, vs, h1, ⟨h2.1, fun z => h2.2 (List.mem_append_left _ z)⟩, RvL.less xs vs b h3⟩
  | .kt xs, v, b, h => by
    simp only [Rv, belowD] at h b ⊢
    obtain ⟨a, vs, h1, h2, h3⟩ := h
    exact ⟨a, vs, h1, h2.elim (fun z => .inl ⟨z.1, fun q => z.2 (List.mem_append_left _ q)⟩) .inr, RvL.less xs vs b h3⟩
  | .fz xs, v, b, h => by
    simp only [Rv, belowD] at h b ⊢
    obtain ⟨a, vs, h1, h2, h3⟩ := h
    exact ⟨a, vs, h1, h2.elim (fun z => .inl ⟨z.1, fun q => z.2 (List.mem_append_left _ q)⟩) .inr, RvL.less xs vs b h3⟩
  | .dct ks xs, v, b, h => by
    simp only [Rv, belowD] at h b ⊢
    obtain ⟨a, vs, h1, h2, h3, h4, h5⟩ := h
    exact ⟨a, vs, h1, h2, fun z => h3 (List.mem_append_left _ z), h4, RvL.less xs vs b h5⟩
  | .loc n, v, b, h => by
    simp only [Rv, belowD, decide_eq_true_eq] at h b ⊢
    obtain ⟨a, h1, h2⟩ := h
    exact ⟨a, h1, by rw [List.getElem?_append_left b] at h2; exact h2⟩
theorem RvL.less {Γ : Gm} {mp r : List Addr} {H : Hp} : ∀ (ds : List D) (vs : List V), belowL mp.length ds = true → RvL Γ (mp ++ r) H ds vs → RvL Γ mp H ds vs
  | [], _, _, h => by simpa only [RvL] using h
  | d :: ds, vs, b, h => by
    simp only [RvL, belowL, Bool.and_eq_true] at h b ⊢
    obtain ⟨v, s, h1, h2, h3⟩ := h
    exact ⟨v, s, h1, Rv.less d v b.1 h2, RvL.less ds s b.2 h3⟩
end
def Cell.below (n : Nat) : Cell → Bool
  | .lst xs => belowL n xs
  | .dK kvs => belowL n (kvs.map (·.2))
  | .dT kvs => belowL n (kvs.map (·.2))
  | .ins _ fs => belowL n (fs.map (·.2))
  | .xo _ fs => belowL n (fs.map (·.2))
  | .tmp => true
theorem RelC.less {Γ : Gm} {mp r : List Addr} {H : Hp} {a : Addr} {c : Cell} (h : RelC Γ (mp ++ r) H a c) (b : c.below mp.length = true) : RelC Γ mp H a c := by
  cases c with
  | lst xs => obtain ⟨vs, h1, h2⟩ := h; exact ⟨vs, h1, RvL.less _ _ b h2⟩
  | dK xs => obtain ⟨vs, h1, k, h2⟩ := h; exact ⟨vs, h1, k, RvL.less _ _ b h2⟩
  | dT xs => obtain ⟨vs, h1, k, h2⟩ := h; exact ⟨vs, h1, k, RvL.less _ _ b h2⟩
  | ins c xs => obtain ⟨C, dx, vs, h1, m, k, h2⟩ := h; exact ⟨C, dx, vs, h1, m, k, RvL.less _ _ b h2⟩
  | xo c xs =>
    obtain ⟨C, m, z | ⟨d, vs, h1, hd, nd, k, h2⟩⟩ := h
    · exact ⟨C, m, .inl z⟩
    · exact ⟨C, m, .inr ⟨d, vs, h1, hd, fun z => nd (List.mem_append_left _ z), k, RvL.less _ _ b h2⟩⟩
  | tmp => exact h
/-- the first n cells alone -/
theorem RelM.less {Γ : Gm} {mp r : List Addr} {H : Hp} {st : Mem} (R : RelM Γ (mp ++ r) H st) (b : (st.take mp.length).all (Cell.below mp.length) = true) : RelM Γ mp H (st.take mp.length) := by
  have hl := R.len
  rw [List.length_append] at hl
  refine ⟨by rw [List.length_take]; omega, (List.nodup_append.mp R.nd).1, fun n c a e1 e2 => ?_⟩
  have hn := (List.getElem?_eq_some_iff.mp e2).1
  have e1' := e1
  rw [List.getElem?_take_of_lt hn] at e1
  exact (R.cell n c a e1 (by rw [List.getElem?_append_left hn]; exact e2)).less (List.all_eq_true.mp b c (List.mem_of_getElem? e1'))
/-- a start of the cells -/
theorem Ext.less {mp r mp1 : List Addr} {H H1 : Hp} (e : Ext mp H mp1 H1) (h : mp1 = mp ++ r) : Ext mp H mp H1 :=
  ⟨fun _ _ z => z, fun a o q n => ⟨(e.keep a o q n).1, n⟩⟩

mutual
theorem Rv.below {Γ : Gm} {mp : List Addr} {H : Hp} : ∀ (d : D) (v : V), Rv Γ mp H d v → belowD mp.length d = true
  | .non, _, _ | .bl _, _, _ | .int _, _, _ | .str _, _, _ | .gl _, _, _ => by simp [belowD]
  | .tup xs, _, h | .lst xs, _, h | .kt xs, _, h | .fz xs, _, h => by
    simp only [Rv] at h
    obtain ⟨a, vs, _, _, r⟩ := h
    simp only [belowD]
    exact RvL.below xs vs r
  | .dct ks xs, _, h => by
    simp only [Rv] at h
    obtain ⟨a, vs, _, _, _, _, r⟩ := h
    simp only [belowD]
    exact RvL.below xs vs r
  | .loc n, _, h => by
    simp only [Rv] at h
    obtain ⟨a, _, r⟩ := h
    simp only [belowD, decide_eq_true_eq]
    exact (List.getElem?_eq_some_iff.mp r).1
theorem RvL.below {Γ : Gm} {mp : List Addr} {H : Hp} : ∀ (ds : List D) (vs : List V), RvL Γ mp H ds vs → belowL mp.length ds = true
  | [], _, _ => rfl
  | d :: ds, vs, h => by
    simp only [RvL] at h
    obtain ⟨v, s, h1, h2, h3⟩ := h
    simp only [belowL, Bool.and_eq_true]
    exact ⟨Rv.below d v h2, RvL.below ds s h3⟩
end
theorem RelC.below {Γ : Gm} {mp : List Addr} {H : Hp} {a : Addr} {c : Cell} (h : RelC Γ mp H a c) : c.below mp.length = true := by
  cases c with
  | lst xs => obtain ⟨vs, h1, h2⟩ := h; exact RvL.below _ _ h2
  | dK xs => obtain ⟨vs, h1, k, h2⟩ := h; exact RvL.below _ _ h2
  | dT xs => obtain ⟨vs, h1, k, h2⟩ := h; exact RvL.below _ _ h2
  | ins c xs => obtain ⟨C, dx, vs, h1, m, k, h2⟩ := h; exact RvL.below _ _ h2
  | xo c xs =>
    obtain ⟨C, m, ⟨z, _⟩ | ⟨d, vs, h1, hd, nd, k, h2⟩⟩ := h
    · subst z; rfl
    · exact RvL.below _ _ h2
  | tmp => rfl
theorem RelM.below {Γ : Gm} {mp : List Addr} {H : Hp} {st : Mem} (R : RelM Γ mp H st) : st.all (Cell.below mp.length) = true := by
  rw [List.all_eq_true]
  intro c hc
  obtain ⟨n, hn, e⟩ := List.mem_iff_getElem.mp hc
  have hn' : n < mp.length := by rw [R.len]; exact hn
  exact (R.cell n c mp[n] (by simp [hn, e]) (by simp [hn'])).below
/-- the cells behind st0's may be thrown away -/
def clean (st0 st : Mem) : Bool := decide (st.take st0.length = st0) || (decide (st0.length ≤ st.length) && (st.take st0.length).all (Cell.below st0.length))
theorem clean_ok {Γ : Gm} {mp : List Addr} {H : Hp} {st0 st : Mem} (R : RelM Γ mp H st0) (h : clean st0 st = true) : (st.take mp.length).all (Cell.below mp.length) = true := by
  unfold clean at h
  rw [← R.len] at h
  rcases Bool.or_eq_true _ _ |>.mp h with h | h
  · rw [decide_eq_true_eq] at h
    rw [h]
    exact R.below
  · exact (Bool.and_eq_true _ _ |>.mp h).2
@[simp] theorem clean_self (st : Mem) : clean st st = true := by simp [clean]
@[simp] theorem clean_app (st s : Mem) : clean st (st ++ s) = true := by simp [clean]

/-- the cells behind st0's thrown away, where nothing asks for them -/
def dropR (st0 : Mem) (r : Res D) : Res D := match r with
  | .ok d st => if belowD st0.length d && clean st0 st then .ok d (st.take st0.length) else .bad
  | .exc e st => if belowL st0.length (e.fs.map (·.2)) && clean st0 st then .exc e (st.take st0.length) else .bad
  | .bad => .bad
theorem RelX.less {Γ : Gm} {mp r : List Addr} {H : Hp} {e : Ex} {cls : Value} {dd : Option Addr} (h : RelX Γ (mp ++ r) H e cls dd) (b : belowL mp.length (e.fs.map (·.2)) = true) : RelX Γ mp H e cls dd := by
  obtain ⟨C, d, vs, h1, h2, h3, h4, h5, h6, h7⟩ := h
  exact ⟨C, d, vs, h1, h2, h3, h4, fun z => h5 (List.mem_append_left _ z), h6, RvL.less _ _ b h7⟩
theorem pre_eq {mp mp' : List Addr} (h : ∀ (n : Nat) (a : Addr), mp[n]? = some a → mp'[n]? = some a) : ∃ r, mp' = mp ++ r := by
  induction mp generalizing mp' with
  | nil => exact ⟨mp', rfl⟩
  | cons a mp ih =>
    cases mp' with
    | nil => have := h 0 a rfl; simp at this
    | cons b mp' =>
      have h0 := h 0 a rfl
      simp at h0
      obtain ⟨r, hr⟩ := ih (mp' := mp') fun n x hx => by simpa using h (n + 1) x (by simpa using hx)
      exact ⟨r, by rw [h0, hr]; rfl⟩
theorem post_drop {Γ : Gm} {mp : List Addr} {H : Hp} {st0 : Mem} {r : Res D} {Q : VK} {W : XK} (R0 : RelM Γ mp H st0) (P : Post Γ mp H (dropR st0 r) Q W) : Post Γ mp H r Q W := by
  cases r with
  | ok d st =>
    unfold dropR at P
    dsimp only at P
    split at P
    · rename_i hc
      rw [Bool.and_eq_true] at hc
      intro mp1 H1 v x R rv
      obtain ⟨s, hs⟩ := pre_eq x.pre
      subst hs
      rw [← R0.len] at P hc
      exact P mp H1 v (x.less rfl) (R.less (clean_ok R0 hc.2)) (Rv.less _ _ hc.1 rv)
    · exact P.elim
  | exc e st =>
    unfold dropR at P
    dsimp only at P
    split at P
    · rename_i hc
      rw [Bool.and_eq_true] at hc
      intro mp1 H1 c dd x R rx
      obtain ⟨s, hs⟩ := pre_eq x.pre
      subst hs
      rw [← R0.len] at P hc
      exact P mp H1 c dd (x.less rfl) (R.less (clean_ok R0 hc.2)) (rx.less hc.1)
    · exact P.elim
  | bad => exact P

/-! ### list comprehensions -/
def wipeE (ρ : Env) : List Nat → Env
  | [] => ρ
  | v :: vs => (wipeE ρ vs).set v none
/-- nothing may be raised within -/
def Res.noX {α : Type} : Res α → Res α
  | .exc _ _ => .bad
  | r => r
@[simp] theorem Res.noX_ok {α : Type} (a : α) (st : Mem) : (Res.ok a st).noX = .ok a st := rfl
/-- a turn's tests and element -/
def stepL (g : MG) (t : MB) (m : ME) (vs : List Nat) (ρ : Env) : D → Mem → Res (Option D) := fun d st => match g d (wipeE ρ vs) st with
  | .nx ρ1 st1 => (t ρ1 st1).noX.bind fun b st2 => if b = true then (m ρ1 st2).noX.bind fun y st3 => .ok (some y) st3 else .ok none st2
  | _ => .bad
/-- an item more in the list's cell -/
def pushL (n : Nat) (o : Option D) (st : Mem) : Res Unit := match o with
  | none => .ok () st
  | some y => match st[n]? with
    | some (.lst acc) => if acc.length < LINE then .ok () (st.set n (.lst (acc ++ [y]))) else .bad
    | _ => .bad
def lcL (n : Nat) : List D → (D → Mem → Res (Option D)) → Mem → Res Unit
  | [], _, st => .ok () st
  | d :: ds, f, st => (f d st).bind fun o st1 => (pushL n o st1).bind fun _ st2 => lcL n ds f st2
/-- a frozen list of it, where no other cell stays; a cell of it -/
def finF (st0 st : Mem) : Res D := match st[st0.length]? with
  | some (.lst xs) => if belowL st0.length xs && clean st0 st then .ok (.lst xs) (st.take st0.length) else .bad
  | _ => .bad
def finN (st0 st : Mem) : Res D := .ok (.loc st0.length) st
def mLC (fin : Mem → Mem → Res D) (mi : ML) (g : MG) (t : MB) (m : ME) (vs : List Nat) : ME := fun ρ st => (mi ρ st).bind fun ds st1 => (lcL st1.length ds (stepL g t m vs ρ) (st1 ++ [.lst []])).bind fun _ st2 => fin st1 st2
/-- what an end must bear: A is the list's address -/
def FinOk (fin : Mem → Mem → Res D) : Prop := ∀ (Γ : Gm) (mp mp1 : List Addr) (H H1 : Hp) (A : Addr) (st0 st : Mem) (Q : VK) (W : XK),
  RelM Γ mp H st0 → mp1[st0.length]? = some A → Ext mp H mp1 H1 → RelM Γ mp1 H1 st → Post Γ mp H (fin st0 st) Q W → Q (.ref A) H1
theorem finN_ok : FinOk finN := fun Γ mp mp1 H H1 A st0 st Q W R0 hA x R P => P mp1 H1 _ x R (by simp only [Rv]; exact ⟨A, rfl, hA⟩)
theorem finF_ok : FinOk finF := fun Γ mp mp1 H H1 A st0 st Q W R0 hA x R P => by
  unfold finF at P
  split at P
  · rename_i xs hs
    split at P
    · rename_i hc
      rw [Bool.and_eq_true] at hc
      obtain ⟨vs, h1, h2⟩ := R.cell _ _ A hs hA
      obtain ⟨s, e⟩ := pre_eq x.pre
      subst e
      rw [← R0.len] at P hc hA
      refine P mp H1 (.ref A) (x.less rfl) (R.less (clean_ok R0 hc.2)) ?_
      simp only [Rv]
      refine ⟨A, vs, rfl, ⟨h1, fun z => ?_⟩, RvL.less _ _ hc.1 h2⟩
      obtain ⟨n, hn, q⟩ := List.mem_iff_getElem.mp z
      have a1 : (mp ++ s)[n]? = some A := by rw [List.getElem?_append_left hn]; simp [hn, q]
      have nd := R.nd
      obtain ⟨b1, c1⟩ := List.getElem?_eq_some_iff.mp a1
      obtain ⟨b2, c2⟩ := List.getElem?_eq_some_iff.mp hA
      have : n = mp.length := (List.getElem_inj nd).mp (c1.trans c2.symm)
      omega
    · exact P.elim
  · exact P.elim
theorem wipeE_rel {Γ : Gm} {mp : List Addr} {H : Hp} {ρ : Env} {σ : L2.St} (h : RelE Γ mp H ρ σ) : ∀ vs : List Nat, RelE Γ mp H (wipeE ρ vs) (wipe σ vs)
  | [] => h
  | v :: vs => by
    have ih := wipeE_rel h vs
    unfold wipeE wipe
    refine ⟨by rw [List.length_set, List.length_set, ih.1], fun i d e => ?_⟩
    by_cases hi : v = i
    · subst hi
      by_cases hv : v < (wipeE ρ vs).length
      · rw [List.getElem?_set_self hv] at e; cases e
      · rw [List.getElem?_eq_none (by simpa using hv)] at e; cases e
    · rw [List.getElem?_set_ne hi] at e ⊢
      exact ih.2 i d e
theorem wipe_get {σ : L2.St} : ∀ {vs : List Nat} {j : Nat}, (wipe σ vs)[j]? = if j ∈ vs ∧ j < σ.length then some none else σ[j]?
  | [], j => by simp [wipe]
  | v :: vs, j => by
    unfold wipe
    by_cases hj : v = j
    · subst hj
      by_cases hl : v < σ.length
      · rw [List.getElem?_set_self (by rw [wipe_length]; exact hl)]
        simp [hl]
      · rw [List.getElem?_eq_none (by rw [List.length_set, wipe_length]; omega), List.getElem?_eq_none (by omega)]
        simp [hl]
    · rw [List.getElem?_set_ne hj, wipe_get (vs := vs)]
      have : j ∈ v :: vs ↔ j ∈ vs := by simp [Ne.symm hj]
      simp only [this]
theorem wipe_same {σ σ2 : L2.St} {vs : List Nat} (hl : σ2.length = (wipe σ vs).length) (h : ∀ j : Nat, j ∉ vs → σ2[j]? = (wipe σ vs)[j]?) : wipe σ2 vs = wipe σ vs := by
  apply List.ext_getElem?
  intro j
  rw [wipe_length] at hl
  rw [wipe_get (σ := σ2), hl]
  by_cases hj : j ∈ vs
  · rw [wipe_get (σ := σ)]
    split
    · rfl
    · rename_i hc
      have : ¬ j < σ.length := fun z => hc ⟨hj, z⟩
      rw [List.getElem?_eq_none (by omega), List.getElem?_eq_none (by omega)]
  · rw [if_neg (fun z => hj z.1)]
    exact h j hj
structure STs (X : Cx) (ifs : List Expr) (t : MB) : Prop where
  run : ∀ W, Takes X W → PTs X ifs (tB' (gm X) W t)
def mYes : MB := fun _ st => .ok true st
theorem PTs.imp {X : Cx} {e : List Expr} {t t' : TT} (h : PTs X e t) (i : ∀ σ H Q, t' σ H Q → t σ H Q) : PTs X e t' := ⟨fun pins s σ H Q I q => h.run pins s σ H Q I (i σ H Q q)⟩
theorem sts_nil {X : Cx} : STs X [] mYes := ⟨fun W tk => PTs.imp pts_nil fun σ H Q ⟨mp, st, ρ, R, re, P⟩ => P mp H true (Ext.refl _ _) R rfl⟩
theorem sts_one {X : Cx} {c : Expr} {t : MB} (h : ST X c t) : STs X [c] t := ⟨fun W tk => pts_one (h.run W tk)⟩
theorem post_noX {α β : Type} {Γ : Gm} {Rel : List Addr → Hp → α → β → Prop} {mp : List Addr} {H : Hp} {r : Res α} {Q : β → Hp → Prop} {W W' : XK} (h : PostG Γ Rel mp H r.noX Q W) : PostG Γ Rel mp H r Q W' := by
  cases r with
  | ok a st => exact h
  | exc e st => exact h.elim
  | bad => exact h.elim

abbrev W0 : WX := fun _ _ _ _ => False
/-- the comprehension's own reading -/
theorem tLc_of {Γ : Gm} {W : WX} {σ : L2.St} {H : Hp} {Q : VK} {fin : Mem → Mem → Res D} (hf : FinOk fin) {mi : ML} {g : MG} {t : MB} {m : ME} {vs us : List Nat} (hus : ∀ j, j ∈ us → j ∈ vs) (h : tE Γ W (mLC fin mi g t m vs) σ H Q) :
    tLc (tG Γ (WalkRel Γ) W mi) (tN Γ us g) (tB' Γ W0 t) (tE Γ W0 m) vs σ H Q := by
  obtain ⟨mp, st, ρ, R, re, P⟩ := tG_bind (Rel := WalkRel Γ) (m := mi) (k := fun ρ ds st1 => (lcL st1.length ds (stepL g t m vs ρ) (st1 ++ [.lst []])).bind fun _ st2 => fin st1 st2) h
  refine ⟨mp, st, ρ, R, re, P.mono fun J H1 ⟨mp1, st1, ρ1, ds, R1, re1, w1, P1⟩ A hA => ?_⟩
  have xA : Ext mp1 H1 (mp1 ++ [A]) (upd H1 A (.lst [])) := ext_cell hA
  have RA : RelM Γ (mp1 ++ [A]) (upd H1 A (.lst [])) (st1 ++ [.lst []]) := R1.push hA ⟨[], upd_same, RvL.nil⟩
  obtain ⟨G, Y, w, hG, hY⟩ := w1.ext xA
  have nA : (mp1 ++ [A])[st1.length]? = some A := by rw [← R1.len]; simp
  refine lc_it w (fun i H2 => ∃ mp2 st2, Ext (mp1 ++ [A]) (upd H1 A (.lst [])) mp2 H2 ∧ RelM Γ mp2 H2 st2 ∧
      Post Γ mp1 H1 ((lcL st1.length (ds.drop i) (stepL g t m vs ρ1) st2).bind fun _ st3 => fin st1 st3) Q (fun c d H' => W c d σ H'))
    ?start ?G ?turn ?fin
  case start => exact ⟨_, _, Ext.refl _ _, RA, P1⟩
  case G => exact fun i H2 _ ⟨mp2, _, x2, _⟩ => hG mp2 H2 x2
  case fin =>
    rintro H2 ⟨mp2, st2, x2, R2, P2⟩
    rw [List.drop_length] at P2
    simp only [lcL, Res.ok_bind] at P2
    exact hf Γ mp1 mp2 H1 H2 A st1 st2 Q _ R1 (x2.pre _ _ nA) (xA.trans x2) R2 P2
  case turn =>
    rintro i x H2 H3 hlt ⟨mp2, st2, x2, R2, P2⟩ y
    obtain ⟨sm, d, hd, rd⟩ := hY mp2 H2 st2 i x H3 x2 R2 hlt y
    have ed : ds.drop i = d :: ds.drop (i + 1) := by rw [List.drop_eq_getElem_cons hlt]; congr 1; rw [List.getElem?_eq_getElem hlt] at hd; exact Option.some.inj hd
    rw [ed] at P2
    have x3 : Ext mp2 H2 mp2 H3 := ext_same sm
    have xx3 := x2.trans x3
    refine ⟨mp2, st2, wipeE ρ1 vs, d, R2.same sm, wipeE_rel (re1.ext (xA.trans xx3)) vs, rd, ?_⟩
    unfold lcL stepL at P2
    cases eg : g d (wipeE ρ1 vs) st2 with
    | nx ρ4 st4 =>
      simp only [eg] at P2
      intro mp4 H4 σ4 x4 R4 re4 l4 k4
      have xx4 := xx3.trans x4
      refine ⟨wipe_same l4 fun j hj => k4 j fun z => hj (hus j z), mp4, st4, ρ4, R4, re4, ?_⟩
      -- the test
      cases et : t ρ4 st4 with
      | bad => rw [et] at P2; exact P2.elim
      | exc e s => rw [et] at P2; exact P2.elim
      | ok b st5 =>
        simp only [et, Res.noX_ok, Res.ok_bind] at P2
        intro mp5 H5 b' x5 R5 rb
        cases rb
        have xx5 := xx4.trans x5
        cases b with
        | false =>
          simp only [Bool.false_eq_true, if_false, Res.ok_bind, pushL] at P2
          rw [if_neg Bool.false_ne_true]
          exact ⟨mp5, st5, xx5, R5, P2⟩
        | true =>
          simp only [if_true] at P2
          rw [if_pos rfl]
          refine ⟨mp5, st5, ρ4, R5, re4.ext x5, ?_⟩
          cases ee : m ρ4 st5 with
          | bad => rw [ee] at P2; exact P2.elim
          | exc e s => rw [ee] at P2; exact P2.elim
          | ok z st6 =>
            simp only [ee, Res.noX_ok, Res.ok_bind, pushL] at P2
            intro mp6 H6 v x6 R6 rz
            have xx6 := xx5.trans x6
            split at P2
            · rename_i acc hacc
              obtain ⟨vs', h1, h2⟩ := R6.cell _ _ A hacc (xx6.pre _ _ nA)
              split at P2
              · rename_i hl
                simp only [Res.ok_bind] at P2
                refine ⟨vs', h1, by rw [← h2.length, sizeLine_eq]; exact hl, mp6, _, xx6.trans (ext_write (List.mem_of_getElem? (xx6.pre _ _ nA))), R6.write (c := .lst (acc ++ [z])) (xx6.pre _ _ nA) (show ∃ vs, _ = some (HO.lst vs) ∧ _ from ⟨_, upd_same, ?_⟩), P2⟩
                exact RvL.ext (ext_write (List.mem_of_getElem? (xx6.pre _ _ nA))) _ _ (h2.append (RvL.cons rz RvL.nil))
              · exact P2.elim
            · exact P2.elim
    | _ => simp only [eg] at P2; exact P2.elim
section
variable {X : Cx} {elt tg iter : Expr} {ifs : List Expr} {scope : Scope} {own : List (Str × Nat)} {pos : Pos} {mi : ML} {g : MG} {t : MB} {m : ME} {us : List Nat} {k : Nat} {fin : Mem → Mem → Res D}
theorem se_lc (hf : FinOk fin) (c : XC k X) (hi : SI X tg iter mi) (ok : blkC X.N X.env.scope scope own = true) (hus : ∀ j, j ∈ us → j ∈ own.map (·.2))
    (hg : ∀ (s : Shared) (H : Hp) (C : Addr) (cl : List (Str × Addr)) (fp : List Addr), XC k (X.blk s H scope (compEnvC scope cl C X.env) fp) → SG (X.blk s H scope (compEnvC scope cl C X.env) fp) tg us g)
    (ht : ∀ (s : Shared) (H : Hp) (C : Addr) (cl : List (Str × Addr)) (fp : List Addr), XC k (X.blk s H scope (compEnvC scope cl C X.env) fp) → STs (X.blk s H scope (compEnvC scope cl C X.env) fp) ifs t)
    (he : ∀ (s : Shared) (H : Hp) (C : Addr) (cl : List (Str × Addr)) (fp : List Addr), XC k (X.blk s H scope (compEnvC scope cl C X.env) fp) → SE (X.blk s H scope (compEnvC scope cl C X.env) fp) elt m)
    (hs : ∀ x, foldedSetIterable iter X.env x = pure x := by intro _; rfl) : SE X (.ListComp elt [⟨tg, iter, ifs, 0⟩] scope pos) (mLC fin mi g t m (own.map (·.2))) :=
  ⟨fun W tk => PE.imp (pe_lc (own := own) c.calm c.nd (hi.run W tk) (blkOk_by ok) (fun s H C cl fp => (hg s H C cl fp (c.blk _ _ _ _ _)).run) (fun s H C cl fp => (ht s H C cl fp (c.blk _ _ _ _ _)).run W0 takes0) (fun s H C cl fp => (he s H C cl fp (c.blk _ _ _ _ _)).run W0 takes0) hs)
    fun σ H Q q => tLc_of hf hus q⟩
theorem s_setLc {i : Nat} {y : Str} {py spos : Pos} (hf : FinOk fin) (c : XC k X) (hy : X.N[i]? = some y) (hyl : X.env.scope.names.lookup y = some .local)
    (hsw : swapsWith (.ListComp elt [⟨tg, iter, ifs, 0⟩] scope pos) (some (.Name y py)) spos.line X.env = pure true) (hi : SI X tg iter mi) (ok : blkC X.N X.env.scope scope own = true) (hus : ∀ j, j ∈ us → j ∈ own.map (·.2))
    (hg : ∀ (s : Shared) (H : Hp) (C : Addr) (cl : List (Str × Addr)) (fp : List Addr), XC k (X.blk s H scope (compEnvC scope cl C X.env) fp) → SG (X.blk s H scope (compEnvC scope cl C X.env) fp) tg us g)
    (ht : ∀ (s : Shared) (H : Hp) (C : Addr) (cl : List (Str × Addr)) (fp : List Addr), XC k (X.blk s H scope (compEnvC scope cl C X.env) fp) → STs (X.blk s H scope (compEnvC scope cl C X.env) fp) ifs t)
    (he : ∀ (s : Shared) (H : Hp) (C : Addr) (cl : List (Str × Addr)) (fp : List Addr), XC k (X.blk s H scope (compEnvC scope cl C X.env) fp) → SE (X.blk s H scope (compEnvC scope cl C X.env) fp) elt m)
    (hs : ∀ x, foldedSetIterable iter X.env x = pure x := by intro _; rfl) : SS X (.Assign [.Name y py] (.ListComp elt [⟨tg, iter, ifs, 0⟩] scope pos) spos) (sSet i (mLC fin mi g t m (own.map (·.2)))) :=
  ⟨fun W tk => PS.imp (ps_setLc (own := own) c.calm c.nd hy hyl hsw (hi.run W tk) (blkOk_by ok) (fun s H C cl fp => (hg s H C cl fp (c.blk _ _ _ _ _)).run) (fun s H C cl fp => (ht s H C cl fp (c.blk _ _ _ _ _)).run W0 takes0) (fun s H C cl fp => (he s H C cl fp (c.blk _ _ _ _ _)).run W0 takes0) hs)
    fun E σ H q => by
      obtain ⟨mp, st, ρ, R, re, P⟩ := q
      have q2 : tE (gm X) W (mLC fin mi g t m (own.map (·.2))) σ H (fun x H1 => gName i x σ H1 E.nx) := ⟨mp, st, ρ, R, re, (P.toS re).mono fun x H1 ⟨mp1, st1, d, _, _, R1, r1, re1, P1⟩ => P1 mp1 H1 _ (Ext.refl _ _) R1 (re1.set i r1)⟩
      exact tLc_of hf hus q2⟩
end
end VI
set_option maxHeartbeats 4000000
namespace VI
open PySem PySem.Spec PyProof.Rows L2

/-! ### defs -/
section
variable (P : Program) (w : World) (K : PySem.W.Frag) (mg : Str → Option Value) (base : Heap)
/-- a def does what F says -/
structure FnS (k : Nat) (f : Addr) (fd : FuncData) (ps : List Str) (F : FL) : Prop where
  run : ∀ (A : Around) (outer : List PySem.Env) (s : Shared) (H : Hp) (args : Args) (us : List Value) (vs : List V) (ds : List D) (mp : List Addr) (st : Mem) (Q : VK) (E : XK),
    Room k A → A.guards = some [] → Env0 P w K mg base A outer s H → BindsTo s fd args (ps.zip us) → Vals vs us → vs.length = ps.length → RelM ⟨K, mg⟩ mp H st → RvL ⟨K, mg⟩ mp H ds vs →
    Post ⟨K, mg⟩ mp H (F ds st) Q E → codeAny (model P w) A (.call (.ref f) args) (CR (L2.CX P w) outer P w H s Q E) s
/-- a def of the text, called x -/
def DefS (k : Nat) (x : Str) (ps : List Str) (F : FL) : Prop :=
  ∃ f fd, mg x = some (.ref f) ∧ PySem.W.keepIn K (.ref f) = true ∧ (∃ oc od osl, K.lookup f = some ⟨oc, od, .func fd, osl⟩) ∧ Binds K fd ps [] ∧ FnS P w K mg base k f fd ps F
end
/-- what the top has left of a def -/
def DefT (K : PySem.W.Frag) (mg : Str → Option Value) (x : Str) (st : Stmt) : Prop := ∃ f fd, mg x = some (.ref f) ∧ Fun K x x st f fd
def startE (n : Nat) (ds : List D) : Env := ds.map some ++ List.replicate (n - ds.length) none
def bodyF (m : MS) (n : Nat) (ds : List D) (st : Mem) : Res D := match m (startE n ds) st with
  | .nx _ st' => .ok .non st'
  | .rt d st' => .ok d st'
  | .exc e _ st' => .exc e st'
  | _ => .bad
section
variable {P : Program} {w : World} {K : PySem.W.Frag} {mg : Str → Option Value} {base : Heap}
theorem startE_rel {Γ : Gm} {mp : List Addr} {H : Hp} {N : List Str} {ds : List D} {vs : List V} (r : RvL Γ mp H ds vs) : RelE Γ mp H (startE N.length ds) (L2.start N vs) := by
  unfold startE L2.start
  rw [r.length]
  refine ⟨by simp [r.length], fun i d e => ?_⟩
  by_cases hi : i < ds.length
  · rw [List.getElem?_append_left (by simpa using hi)] at e
    rw [List.getElem?_map] at e
    cases q : ds[i]? with
    | none => rw [q] at e; cases e
    | some d' =>
      rw [q] at e
      cases e
      obtain ⟨v, h1, h2⟩ := r.get q
      exact ⟨v, by rw [List.getElem?_append_left (by rw [List.length_map, ← r.length]; exact hi), List.getElem?_map, h1]; rfl, h2⟩
  · rw [List.getElem?_append_right (by simpa using hi), List.getElem?_replicate] at e
    split at e <;> cases e
/-- THE RULE for a def: its body. wr: what is thrown away behind it -/
theorem def_mk {x : Str} {st : Stmt} {N ps : List Str} {k : Nat} {m : MS} (wr : Mem → Res D → Res D) (hw : ∀ Γ mp H st0 r (Q : VK) (W : XK), RelM Γ mp H st0 → Post Γ mp H (wr st0 r) Q W → Post Γ mp H r Q W)
    (T : DefT K mg x st) (S : FnScope N ps (defScope st))
    (hb : ∀ (kV doc pm : Value) (an : Option Addr) (cdv ct : Value) (us : List Value), us.length = ps.length → bindArgs (PySem.W.fnOf x x (defArgs st) (defBody st) (defScope st) .none kV doc pm an cdv ct) ⟨us, []⟩ = pure (ps.zip us))
    (body : ∀ (f : Addr) (cdv : Value) (A : Around) (outer : List PySem.Env) (s : Shared) (H : Hp) (E : XK), XC k (cxOf (L2.CX P w) P w K mg base N x (defScope st) f cdv A outer s H E) →
      SSs (cxOf (L2.CX P w) P w K mg base N x (defScope st) f cdv A outer s H E) (defBody st) m) : DefS P w K mg base (k + 1) x ps (fun ds st0 => wr st0 (bodyF m N.length ds st0)) := by
  obtain ⟨f, fd, hm, F⟩ := T
  refine ⟨f, fd, hm, F.kp, (by obtain ⟨oc, od, kV, doc, pm, an, cdv, ct, osl, _, lk, _⟩ := F.ex; exact ⟨oc, od, osl, lk⟩), F.binds hb, ⟨fun A outer s H args us vs ds mp st0 Q E hr hg e0 bt r hl R rl Pq => ?_⟩⟩
  obtain ⟨oc, od, kV, doc, pm, an, cdv, ct, osl, rfl, lk, hcd⟩ := F.ex
  refine LamX.run_ofS (N := N) (ps := ps) lk hcd S hr e0 bt r hl fun hr' => ?_
  have c : XC k (cxOf (L2.CX P w) P w K mg base N x (defScope st) f cdv A outer s H E) := ⟨⟨hr', hg⟩, rfl, S.nd, passes_of rfl⟩
  refine ⟨_, (body f cdv A outer s H E c).run (fun cls d _ H => E cls d H) (takes_of rfl rfl rfl rfl), mp, st0, startE N.length ds, R, startE_rel rl, ?_⟩
  have P1 := hw _ mp H st0 _ Q E R Pq
  unfold bodyF at P1
  cases em : m (startE N.length ds) st0 with
  | nx ρ' st' => rw [em] at P1; exact fun mp' H' σ' x1 R1 _ => P1 mp' H' .non x1 R1 (by simp [Rv])
  | rt d st' => rw [em] at P1; exact P1
  | exc e ρ' st' => rw [em] at P1; exact fun mp' H' cls dd σ' x1 R1 rx _ => P1 mp' H' cls dd x1 R1 rx
  | bk => rw [em] at P1; exact P1.elim
  | ct => rw [em] at P1; exact P1.elim
  | bad => rw [em] at P1; exact P1.elim
theorem wr_id : ∀ (Γ : Gm) (mp : List Addr) (H : Hp) (st0 : Mem) (r : Res D) (Q : VK) (W : XK), RelM Γ mp H st0 → Post Γ mp H r Q W → Post Γ mp H r Q W := fun _ _ _ _ _ _ _ _ h => h
theorem wr_drop : ∀ (Γ : Gm) (mp : List Addr) (H : Hp) (st0 : Mem) (r : Res D) (Q : VK) (W : XK), RelM Γ mp H st0 → Post Γ mp H (dropR st0 r) Q W → Post Γ mp H r Q W := fun _ _ _ _ _ _ _ R h => post_drop R h
/-- a list that is handed back: its cell thrown away, the list frozen -/
def dropF (st0 : Mem) (r : Res D) : Res D := match r with
  | .ok (.loc n) st => match st[n]? with
    | some (.lst xs) => if decide (st0.length ≤ n) && belowL st0.length xs && clean st0 st then .ok (.lst xs) (st.take st0.length) else .bad
    | _ => .bad
  | r => dropR st0 r
theorem wr_frz : ∀ (Γ : Gm) (mp : List Addr) (H : Hp) (st0 : Mem) (r : Res D) (Q : VK) (W : XK), RelM Γ mp H st0 → Post Γ mp H (dropF st0 r) Q W → Post Γ mp H r Q W := fun Γ mp H st0 r Q W R0 P => by
  unfold dropF at P
  split at P
  · rename_i n st
    split at P
    · rename_i xs hs
      split at P
      · rename_i hc
        simp only [Bool.and_eq_true, decide_eq_true_eq] at hc
        obtain ⟨⟨h1, h2⟩, h3⟩ := hc
        intro mp1 H1 v x R rv
        simp only [Rv] at rv
        obtain ⟨a, rfl, hm⟩ := rv
        obtain ⟨vs, q1, q2⟩ := R.cell n _ a hs hm
        obtain ⟨s, e⟩ := pre_eq x.pre
        subst e
        rw [← R0.len] at P h2 h1
        refine P mp H1 (.ref a) (x.less rfl) (R.less (clean_ok R0 h3)) ?_
        simp only [Rv]
        refine ⟨a, vs, rfl, ⟨q1, fun z => ?_⟩, RvL.less _ _ h2 q2⟩
        obtain ⟨i, hi, qi⟩ := List.mem_iff_getElem.mp z
        have a1 : (mp ++ s)[i]? = some a := by rw [List.getElem?_append_left hi]; simp [hi, qi]
        obtain ⟨b1, c1⟩ := List.getElem?_eq_some_iff.mp a1
        obtain ⟨b2, c2⟩ := List.getElem?_eq_some_iff.mp hm
        have : i = n := (List.getElem_inj R.nd).mp (c1.trans c2.symm)
        omega
      · exact P.elim
    · exact P.elim
  · exact post_drop R0 P
end

/-! ### calls -/
section
variable {X : Cx} {k : Nat} {f : Addr} {fd : FuncData} {ps : List Str} {F : FL} {x : Str} {p pos : Pos} {e : Expr} {es : List Expr} {ms : List ME} {W : WX}
theorem run_S {pins : List (Addr × Obj)} {σ : L2.St} {H : Hp} {s : Shared} {Q : VK} {us : List Value} {vs : List V} {ds : List D} {mp : List Addr} {st : Mem} (FN : FnS X.prog X.w X.K X.mg X.base k f fd ps F) (hr : XR k X) (hb : Binds X.K fd ps []) (tk : Takes X W)
    (I : L2.Inv X pins σ H s) (r : Vals vs us) (hl : vs.length = ps.length) (R : RelM (gm X) mp H st) (rl : RvL (gm X) mp H ds vs) (P : Post (gm X) mp H (F ds st) Q (fun c d H' => W c d σ H')) :
    wpAny (model X.prog X.w) X.A (call (.ref f) us) (EP X pins σ Q) X.xe s := by
  have b := hb s us I.kIn (by rw [List.append_nil, ← r.length]; exact hl)
  rw [List.append_nil] at b
  refine wpAny_call (codeAny_mono (FN.run X.A X.stack s H ⟨us, []⟩ us vs ds mp st Q (WE W σ) hr.room hr.gd I.env0 b r hl R rl P) fun r s' hq => ?_)
  cases r with
  | error e => exact passAt tk σ pins H s e s' I hq
  | ok fl =>
    cases fl with
    | ret u => exact I.after hq
    | next => exact False.elim hq
    | brk => exact False.elim hq
    | cont => exact False.elim hq
theorem se_call (FN : DefS X.prog X.w X.K X.mg X.base k x ps F) (hr : XR k X) (hg : Gl X x) (ha : SA X (e :: es) ms) (hl : ms.length = ps.length) (hdb : (x == ("__debug__" : Str)) = false := by decide)
    (he : starEach (e :: es) X.env = (false, eval e X.env) :: starEach es X.env := by rfl) (hpl : (backTo pos (starEach es X.env)).any (·.1) = false := by rfl) : SE X (.Call (.Name x p) (e :: es) [] pos) (mF F ms) := ⟨fun W tk => ⟨fun pins s σ H Q I h => by
  obtain ⟨f, fd, hm, hk, _, hb, FN⟩ := FN
  have h2 := tA_of h
  refine wpAny_Call_Name_kw (ld_glob I hg hm ?_ hdb)
  refine PySem.W.callWith_K (h₀ := X.base) I.ok.mod.kin hk (thn ((ha.run W tk).run pos pins s σ H _ I h2) fun us s1 ⟨vs, H1, I1, r, mp1, st1, ds, hd, R1, rl, P1⟩ => ⟨I1.kIn, ?_⟩) he hpl
  exact run_S FN hr hb tk I1 r (by rw [← rl.length, hd, hl]) R1 rl P1⟩⟩
theorem se_call0 (FN : DefS X.prog X.w X.K X.mg X.base k x [] F) (hr : XR k X) (hg : Gl X x) (hdb : (x == ("__debug__" : Str)) = false := by decide) : SE X (.Call (.Name x p) [] [] pos) (mF F []) := ⟨fun W tk => ⟨fun pins s σ H Q I h => by
  obtain ⟨f, fd, hm, hk, _, hb, FN⟩ := FN
  obtain ⟨mp, st, ρ, R, re, P⟩ := h
  refine wpAny_Call_Name_kw (ld_glob I hg hm ?_ hdb)
  exact PySem.W.callWith_K0 I.kIn hk (run_S (us := []) (vs := []) (ds := []) FN hr hb tk I .nil rfl R RvL.nil P)⟩⟩
/-- a call of what a name holds: one of some defs -/
def mCallV (i : Nat) (tab : List (Str × FL)) (ms : List ME) : ME := fun ρ st => match ρ[i]? with
  | some (some (.gl y)) => match tab.lookup y with
    | some F => (mArgs ms ρ st).bind F
    | none => .bad
  | _ => .bad
theorem se_callV {i : Nat} {tab : List (Str × FL)} {n : Nat} (hT : ∀ y F, tab.lookup y = some F → ∃ ps, ps.length = n ∧ DefS X.prog X.w X.K X.mg X.base k y ps F) (hr : XR k X) (hN : X.N[i]? = some x) (hv : Vis X.env.scope x) (ha : SA X (e :: es) ms) (hl : ms.length = n)
    (hdb : (x == ("__debug__" : Str)) = false := by decide) (hcd : (x == ("__classdict__" : Str)) = false := by decide)
    (he : starEach (e :: es) X.env = (false, eval e X.env) :: starEach es X.env := by rfl) (hpl : (backTo pos (starEach es X.env)).any (·.1) = false := by rfl) : SE X (.Call (.Name x p) (e :: es) [] pos) (mCallV i tab ms) := ⟨fun W tk => ⟨fun pins s σ H Q I h => by
  obtain ⟨mp, st, ρ, R, re, P⟩ := h
  unfold mCallV at P
  split at P
  · rename_i y ey
    split at P
    · rename_i F eF
      obtain ⟨ps, hps, f, fd, hm, hk, _, hb, FN⟩ := hT y F eF
      obtain ⟨v, hv1, hv2⟩ := re.2 i _ ey
      simp only [Rv] at hv2
      obtain ⟨a, rfl, ha1⟩ := hv2
      rw [hm] at ha1
      cases ha1
      have h2 := tA_of (ms := ms) (f := F) (Q := Q) (W := W) (σ := σ) (H := H) (Γ := gm X) ⟨mp, st, ρ, R, re, P⟩
      refine wpAny_Call_Name_kw (thn ((pe_var (pos := p) hN hv hdb hcd).run pins s σ H (fun v H1 => v = .ref f ∧ H1 = H) I ⟨.ref f, hv1, rfl, rfl⟩) fun u s1 ⟨v, H1, I1, r1, q1⟩ => ?_)
      obtain ⟨rfl, rfl⟩ := q1
      cases r1
      refine PySem.W.callWith_K (h₀ := X.base) I.ok.mod.kin hk (thn ((ha.run W tk).run pos pins s1 σ _ _ I1 h2) fun us s2 ⟨vs, H2, I2, r, mp1, st1, ds, hd, R1, rl, P1⟩ => ⟨I2.kIn, ?_⟩) he hpl
      exact run_S FN hr hb tk I2 r (by rw [← rl.length, hd, hl, hps]) R1 rl P1
    · exact P.elim
  · exact P.elim⟩⟩
end
end VI
set_option maxHeartbeats 4000000
namespace VI
open PySem PySem.Spec PyProof.Rows L2

/-! ### stores -/
/-- o[i] = v -/
def setD (o i v : D) (st : Mem) : Option Mem := match o with
  | .loc n => match st[n]? with
    | some (.lst xs) => match i with
      | .int k => (ixN xs.length k).map fun j => st.set n (.lst (xs.set j v))
      | _ => none
    | some (.dK kvs) => if kvs.length < LINE then (keyD i).map fun q => st.set n (.dK (putD kvs q v)) else none
    | some (.dT kvs) => match i with
      | .tup xs => if kvs.length < LINE then (keysD xs).map fun q => st.set n (.dT (putD kvs q v)) else none
      | _ => none
    | _ => none
  | _ => none
def rSetAll : TSet := fun o i v H Q => rSetL o i v H Q ∨ rSetD o i v H Q
theorem set_all {X : Cx} {k : Nat} (r : XR k X) : PSet X rSetAll := by
  intro pins s σ H o i v ov iv u Q I ro ri rv h
  rcases h with h | h
  · exact set_list pins s σ H o i v ov iv u Q I ro ri rv h
  · exact set_dict (by have := r.room.units; omega) pins s σ H o i v ov iv u Q I ro ri rv h
theorem line_lt {n : Nat} (h : n < LINE) : n < sizeLine := by
  have : sizeLine = 16777216 := sizeLine_eq
  have e : LINE = 16777216 := rfl
  omega
theorem set_of {Γ : Gm} {mp : List Addr} {H : Hp} {st st' : Mem} {o i v : D} {x y z : V} {Q : Hp → Prop} (R : RelM Γ mp H st) (ho : Rv Γ mp H o x) (hi : Rv Γ mp H i y) (hv : Rv Γ mp H v z) (e : setD o i v st = some st')
    (q : ∀ H', Ext mp H mp H' → RelM Γ mp H' st' → Q H') : rSetAll x y z H Q := by
  unfold setD at e
  split at e
  · rename_i n
    simp only [Rv] at ho
    obtain ⟨a, rfl, hm⟩ := ho
    have hmem : a ∈ mp := List.mem_of_getElem? hm
    split at e
    · rename_i xs hs
      obtain ⟨vs, h1, h2⟩ := R.cell n _ a hs hm
      split at e
      · rename_i k
        simp only [Rv] at hi; subst hi
        simp only [Option.map_eq_some_iff] at e
        obtain ⟨j, ej, rfl⟩ := e
        refine .inl ⟨a, vs, k, j, rfl, rfl, h1, by rw [← h2.length]; exact ej, q _ (ext_write hmem) (R.write hm (show ∃ vs, _ = some (HO.lst vs) ∧ _ from ⟨_, upd_same, ?_⟩))⟩
        exact RvL.ext (ext_write hmem) _ _ (h2.set j hv)
      · cases e
    · rename_i kvs hs
      obtain ⟨vs, h1, z1, z2⟩ := R.cell n _ a hs hm
      split at e
      · rename_i hl
        simp only [Option.map_eq_some_iff] at e
        obtain ⟨kk, ek, rfl⟩ := e
        have ey := key_of hi ek
        subst ey
        have hl' : vs.length < sizeLine := by
          have := congrArg List.length z1
          simp only [List.length_map] at this
          rw [this]; exact line_lt hl
        obtain ⟨p1, p2⟩ := put_of (k := kk) z1 z2 hv
        exact .inr ⟨a, _, rfl, DPut.k h1 hl', q _ (ext_write hmem) (R.write hm (show ∃ vs, _ = some (HO.dK vs) ∧ _ from ⟨_, upd_same, p1, RvL.ext (ext_write hmem) _ _ p2⟩))⟩
      · cases e
    · rename_i kvs hs
      obtain ⟨vs, h1, z1, z2⟩ := R.cell n _ a hs hm
      split at e
      · rename_i xs
        split at e
        · rename_i hl
          simp only [Option.map_eq_some_iff] at e
          obtain ⟨kk, ek, rfl⟩ := e
          simp only [Rv] at hi
          obtain ⟨b, us, rfl, hb, rb⟩ := hi
          have ey := keys_of rb ek
          subst ey
          have hl' : vs.length < sizeLine := by
            have := congrArg List.length z1
            simp only [List.length_map] at this
            rw [this]; exact line_lt hl
          obtain ⟨p1, p2⟩ := put_of (k := kk) z1 z2 hv
          exact .inr ⟨a, _, rfl, DPut.t h1 hb.1 hl', q _ (ext_write hmem) (R.write hm (show ∃ vs, _ = some (HO.dT vs) ∧ _ from ⟨_, upd_same, p1, RvL.ext (ext_write hmem) _ _ p2⟩))⟩
        · cases e
      · cases e
    · cases e
  · cases e
def gSubD (mo mi : ME) : MG := fun d ρ st => match mo ρ st with
  | .ok o st1 => match mi ρ st1 with
    | .ok i st2 => match setD o i d st2 with
      | some st3 => .nx ρ st3
      | none => .bad
    | _ => .bad
  | _ => .bad
section
variable {X : Cx} {o i : Expr} {mo mi : ME} {pos : Pos} {k : Nat}
theorem sg_sub (r : XR k X) (ho : SE X o mo) (hi : SE X i mi)
    (ha : ∀ v, assign (.Subscript o i pos) X.env v = (do
      let ov ← holding [v] (eval o X.env)
      let iv ← holding [v, ov] (eval i X.env)
      standAt pos
      holding [v, ov, iv] (setItem ov iv v)
      release [v, ov, iv] []) := by intro _; rfl) : SG X (.Subscript o i pos) [] (gSubD mo mi) :=
  ⟨PG.imp (pg_sub (ho.run W0 takes0) (hi.run W0 takes0) (set_all r) ha) fun x σ H Q ⟨mp, st, ρ, d, R, re, rd, P⟩ => by
    refine ⟨mp, st, ρ, R, re, ?_⟩
    unfold gSubD at P
    cases e1 : mo ρ st with
    | ok od st1 =>
      simp only [e1] at P
      intro mp1 H1 xo x1 R1 r1
      refine ⟨mp1, st1, ρ, R1, re.ext x1, ?_⟩
      cases e2 : mi ρ st1 with
      | ok ii st2 =>
        simp only [e2] at P
        intro mp2 H2 xi x2 R2 r2
        cases e3 : setD od ii d st2 with
        | some st3 =>
          simp only [e3] at P
          refine set_of R2 (Rv.ext x2 _ _ r1) r2 (Rv.ext (x1.trans x2) _ _ rd) e3 fun H' x3 R3 => ?_
          exact P mp2 H' σ ((x1.trans x2).trans x3) R3 (re.ext ((x1.trans x2).trans x3)) rfl fun _ _ => rfl
        | none => simp only [e3] at P; exact P.elim
      | _ => simp only [e2] at P; exact P.elim
    | _ => simp only [e1] at P; exact P.elim⟩
end

/-! ### methods of built-in types -/
abbrev FM := D → List D → Mem → Res D
def SrvM (Γ : Gm) (f : FM) (r : V → List V → Hp → VK → Prop) : Prop := ∀ mp H st o ds x xs (Q : VK) (W : XK), RelM Γ mp H st → Rv Γ mp H o x → RvL Γ mp H ds xs → Post Γ mp H (f o ds st) Q W → r x xs H Q
/-- it is of the type T -/
def isT (T : String) (o : D) (st : Mem) : Bool := match o with
  | .str _ => T == "str"
  | .lst _ => T == "list"
  | .fz _ => T == "list"
  | .dct _ _ => T == "dict"
  | .loc n => match st[n]? with
    | some (.lst _) => T == "list"
    | some (.dK _) => T == "dict"
    | some (.dT _) => T == "dict"
    | _ => false
  | _ => false
theorem isT_ok {Γ : Gm} {mp : List Addr} {H : Hp} {st : Mem} {o : D} {x : V} {T : String} (R : RelM Γ mp H st) (h : Rv Γ mp H o x) (e : isT T o st = true) : tyV Γ.K T x H := by
  cases o with
  | str y => simp only [Rv] at h; subst h; exact eq_of_beq e
  | lst xs =>
    simp only [Rv] at h
    obtain ⟨a, vs, rfl, q, _⟩ := h
    exact .inl ⟨eq_of_beq e, vs, q.sq⟩
  | fz xs =>
    simp only [Rv] at h
    obtain ⟨a, vs, rfl, q, _⟩ := h
    exact .inl ⟨eq_of_beq e, vs, q.sq⟩
  | dct ks xs =>
    simp only [Rv] at h
    obtain ⟨a, vs, rfl, q, _⟩ := h
    exact .inr (.inr (.inl ⟨eq_of_beq e, .inl ⟨_, q⟩⟩))
  | loc n =>
    simp only [Rv] at h
    obtain ⟨a, rfl, hm⟩ := h
    simp only [isT] at e
    split at e
    · rename_i xs hs
      obtain ⟨vs, h1, h2⟩ := R.cell n _ a hs hm
      exact .inl ⟨eq_of_beq e, vs, .inl (.inl h1)⟩
    · rename_i xs hs
      obtain ⟨vs, h1, h2⟩ := R.cell n _ a hs hm
      exact .inr (.inr (.inl ⟨eq_of_beq e, .inl ⟨_, h1⟩⟩))
    · rename_i xs hs
      obtain ⟨vs, h1, h2⟩ := R.cell n _ a hs hm
      exact .inr (.inr (.inl ⟨eq_of_beq e, .inr ⟨_, h1⟩⟩))
    · cases e
  | _ => cases e
def mBM (T : String) (f : FM) (mo : ME) (ms : List ME) : ME := fun ρ st => (mo ρ st).bind fun o st1 => if isT T o st1 = true then (mArgs ms ρ st1).bind fun ds st2 => f o ds st2 else .bad
section
variable {X : Cx} {o e : Expr} {es : List Expr} {mo : ME} {ms : List ME} {name : Str} {apos cpos : Pos} {T id : String} {f : FM} {r : V → List V → Hp → VK → Prop}
theorem se_bm (pa : PlainAttrs T) (slot : Slot T name id) (hty : typeOf (.builtin id) = pure (.type "method_descriptor")) (hm : MtR X id r) (hf : SrvM (gm X) f r) (ho : SE X o mo) (ha : SA X (e :: es) ms)
    (hbase : attributeBase o name X.env (eval o X.env) = eval o X.env := by rfl)
    (hfew : ((backTo cpos (starEach (e :: es) X.env)).all (fun x => !x.1) && (backToKw cpos (keywordEach [] X.env)).all (fun x => x.1.isSome)
      && decide ((e :: es).length + ([] : List Keyword).length + (if ([] : List Keyword).isEmpty then 0 else 1) < 30)) = true := by rfl)
    (hline : (apos.endLine == cpos.line) = true := by rfl) (hs : starEach (e :: es) X.env = (false, eval e X.env) :: starEach es X.env := by rfl) (hplain : (backTo cpos (starEach es X.env)).any (·.1) = false := by rfl) :
    SE X (.Call (.Attribute o name apos) (e :: es) [] cpos) (mBM T f mo ms) := ⟨fun W tk => PE.imp (pe_bm pa slot hty hm (ho.run W tk) (ha.run W tk) hbase hfew hline hs hplain) fun σ H Q h => by
  obtain ⟨mp, st, ρ, R, E, P⟩ := tG_bind (Rel := Rv (gm X)) (m := mo) (k := fun ρ o st1 => if isT T o st1 = true then (mArgs ms ρ st1).bind fun ds st2 => f o ds st2 else .bad) h
  refine ⟨mp, st, ρ, R, E, P.mono fun x H1 ⟨mp1, st1, ρ1, od, R1, E1, r1, P1⟩ => ?_⟩
  split at P1
  · rename_i ht
    refine ⟨isT_ok R1 r1 ht, ?_⟩
    obtain ⟨mp2, st2, ρ2, R2, E2, P2⟩ := tG_bindK (Rel := RvL (gm X)) (m := mArgs ms) R1 E1 P1
    exact ⟨mp2, st2, ρ2, R2, E2, P2.mono fun xs H2 ⟨mp3, st3, ds, _, x3, R3, E3, r3, P3⟩ => hf mp3 H2 st3 od ds x xs Q _ R3 (Rv.ext x3 _ _ r1) r3 P3⟩
  · exact P1.elim⟩
theorem se_bm0 (pa : PlainAttrs T) (slot : Slot T name id) (hty : typeOf (.builtin id) = pure (.type "method_descriptor")) (hm : MtR X id r) (hf : SrvM (gm X) f r) (ho : SE X o mo)
    (hbase : attributeBase o name X.env (eval o X.env) = eval o X.env := by rfl) (hline : (apos.endLine == cpos.line) = true := by rfl) :
    SE X (.Call (.Attribute o name apos) [] [] cpos) (mBM T f mo []) := ⟨fun W tk => PE.imp (pe_bm0 pa slot hty hm (ho.run W tk) hbase hline) fun σ H Q h => by
  obtain ⟨mp, st, ρ, R, E, P⟩ := tG_bind (Rel := Rv (gm X)) (m := mo) (k := fun ρ o st1 => if isT T o st1 = true then (mArgs [] ρ st1).bind fun ds st2 => f o ds st2 else .bad) h
  refine ⟨mp, st, ρ, R, E, P.mono fun x H1 ⟨mp1, st1, ρ1, od, R1, E1, r1, P1⟩ => ?_⟩
  split at P1
  · rename_i ht
    exact ⟨isT_ok R1 r1 ht, hf mp1 H1 st1 od [] x [] Q _ R1 r1 RvL.nil P1⟩
  · exact P1.elim⟩
end
def appendD : FM := fun o ds st => match o, ds with
  | .loc n, [d] => match st[n]? with
    | some (.lst xs) => if xs.length < LINE then .ok .non (st.set n (.lst (xs ++ [d]))) else .bad
    | _ => .bad
  | _, _ => .bad
theorem srv_append {Γ : Gm} : SrvM Γ appendD rAppend := by
  intro mp H st o ds x xs Q W R ho rl P
  unfold appendD at P
  split at P
  · rename_i n d
    simp only [Rv] at ho
    obtain ⟨a, rfl, hm⟩ := ho
    obtain ⟨v, rfl, rv⟩ := rl.one
    have hmem : a ∈ mp := List.mem_of_getElem? hm
    split at P
    · rename_i ys hs
      obtain ⟨vs, h1, h2⟩ := R.cell n _ a hs hm
      split at P
      · rename_i hl
        refine ⟨a, vs, v, rfl, rfl, h1, by rw [← h2.length]; exact line_lt hl, P mp _ .non (ext_write hmem) (R.write hm (show ∃ vs, _ = some (HO.lst vs) ∧ _ from ⟨_, upd_same, ?_⟩)) (by simp [Rv])⟩
        exact RvL.ext (ext_write hmem) _ _ (h2.append (RvL.cons rv RvL.nil))
      · exact P.elim
    · exact P.elim
  · exact P.elim
/-- xs.pop(i) -/
def popAtD : FM := fun o ds st => match o, ds with
  | .loc n, [.int i] => match st[n]? with
    | some (.lst xs) => if big62 i = true then (match seqIndex? i xs.length with
      | some k => match xs[k]? with
        | some y => .ok y (st.set n (.lst (xs.eraseIdx k)))
        | none => .bad
      | none => .bad) else .bad
    | _ => .bad
  | _, _ => .bad
theorem RvL.erase {Γ : Gm} {mp : List Addr} {H : Hp} : ∀ {ds : List D} {vs : List V} (i : Nat), RvL Γ mp H ds vs → RvL Γ mp H (ds.eraseIdx i) (vs.eraseIdx i)
  | [], vs, i, h => by simp only [RvL] at h; subst h; simp [RvL]
  | d :: ds, vs, 0, h => by
    simp only [RvL] at h
    obtain ⟨v, r, rfl, h2, h3⟩ := h
    exact h3
  | d :: ds, vs, i + 1, h => by
    simp only [RvL] at h
    obtain ⟨v, r, rfl, h2, h3⟩ := h
    exact RvL.cons h2 (RvL.erase i h3)
theorem srv_popAt {Γ : Gm} : SrvM Γ popAtD rPopAt := by
  intro mp H st o ds x xs Q W R ho rl P
  unfold popAtD at P
  split at P
  · rename_i n i
    simp only [Rv] at ho
    obtain ⟨a, rfl, hm⟩ := ho
    obtain ⟨v, rfl, rv⟩ := rl.one
    simp only [Rv] at rv; subst rv
    have hmem : a ∈ mp := List.mem_of_getElem? hm
    split at P
    · rename_i ys hs
      obtain ⟨vs, h1, h2⟩ := R.cell n _ a hs hm
      split at P
      · rename_i hb
        obtain ⟨b1, b2⟩ := big62_ok hb
        split at P
        · rename_i k hk
          split at P
          · rename_i y hy
            obtain ⟨v, hv1, hv2⟩ := h2.get hy
            refine ⟨a, vs, i, k, v, rfl, rfl, h1, by omega, by omega, by rw [← h2.length]; exact hk, hv1, P mp _ v (ext_write hmem) (R.write hm (show ∃ vs, _ = some (HO.lst vs) ∧ _ from ⟨_, upd_same, ?_⟩)) (Rv.ext (ext_write hmem) _ _ hv2)⟩
            exact RvL.ext (ext_write hmem) _ _ (h2.erase k)
          · exact P.elim
        · exact P.elim
      · exact P.elim
    · exact P.elim
  · exact P.elim

/-! ### {k: v, ..} -/
def mPairs : List (ME × ME) → Env → Mem → Res (List (D × D))
  | [], _, st => .ok [] st
  | p :: r, ρ, st => (p.1 ρ st).bind fun x st1 => (p.2 ρ st1).bind fun y st2 => (mPairs r ρ st2).bind fun ps st3 => .ok ((x, y) :: ps) st3
def keyPs : List (D × D) → Option (List (Key × D))
  | [] => some []
  | p :: r => match keyD p.1, keyPs r with
    | some k, some ks => some ((k, p.2) :: ks)
    | _, _ => none
def mergeD (ps : List (Key × D)) : List (Key × D) := ps.foldl (fun acc kv => putD acc kv.1 kv.2) []
def mDisp (kms : List (ME × ME)) : ME := fun ρ st => (mPairs kms ρ (st ++ [.dK []])).bind fun ps st1 => match st1[st.length]? with
  | some (.dK []) => match keyPs ps with
    | some ks => if ks.length ≤ 15 then .ok (.loc st.length) (st1.set st.length (.dK (mergeD ks))) else .bad
    | none => .bad
  | _ => .bad
structure SPPs (X : Cx) (pos : Pos) (keys : List (Option Expr)) (values : List Expr) (kms : List (ME × ME)) : Prop where
  run : ∀ W, Takes X W → PPs X pos keys values (kms.map fun p => (tE (gm X) W p.1, tE (gm X) W p.2))
theorem spps_nil {X : Cx} {pos : Pos} : SPPs X pos [] [] [] := ⟨fun _ _ => pps_nil⟩
theorem spps_cons {X : Cx} {pos : Pos} {k v : Expr} {ks : List (Option Expr)} {vs : List Expr} {mk mv : ME} {kms : List (ME × ME)} (hk : SE X k mk) (hv : SE X v mv) (hr : SPPs X pos ks vs kms) : SPPs X pos (some k :: ks) (v :: vs) ((mk, mv) :: kms) :=
  ⟨fun W tk => pps_cons (hk.run W tk) (hv.run W tk) (hr.run W tk)⟩
def RvP (Γ : Gm) (mp : List Addr) (H : Hp) (ps : List (D × D)) (vs : List (V × V)) : Prop := RvL Γ mp H (ps.map (·.1)) (vs.map (·.1)) ∧ RvL Γ mp H (ps.map (·.2)) (vs.map (·.2))
theorem tPairs_of {Γ : Gm} {W : WX} {σ : L2.St} : ∀ {kms : List (ME × ME)} {H : Hp} {Q : List (V × V) → Hp → Prop} {mp : List Addr} {st : Mem} {ρ : Env}, RelM Γ mp H st → RelE Γ mp H ρ σ →
    (∀ ps st1, mPairs kms ρ st = .ok ps st1 → ∀ mp1 H1 vs, Ext mp H mp1 H1 → RelM Γ mp1 H1 st1 → RvP Γ mp1 H1 ps vs → Q vs H1) →
    (∀ e st1, mPairs kms ρ st = .exc e st1 → ∀ mp' H' cls dd, Ext mp H mp' H' → RelM Γ mp' H' st1 → RelX Γ mp' H' e cls dd → W cls dd σ H') → mPairs kms ρ st ≠ .bad →
    tPairs (kms.map fun p => (tE Γ W p.1, tE Γ W p.2)) σ H Q
  | [], H, Q, mp, st, ρ, R, E, P, X, B => P [] st rfl mp H [] (Ext.refl _ _) R ⟨RvL.nil, RvL.nil⟩
  | p :: kms, H, Q, mp, st, ρ, R, E, P, X, B => by
    simp only [mPairs] at P X B
    refine ⟨mp, st, ρ, R, E, ?_⟩
    cases e1 : p.1 ρ st with
    | bad => rw [e1] at B; exact (B rfl).elim
    | exc e st1 => rw [e1] at X; exact fun mp' H' cls dd x1 R1 rx => X e st1 rfl mp' H' cls dd x1 R1 rx
    | ok k st1 =>
      intro mp1 H1 v x1 R1 r1
      rw [e1] at P X B
      simp only [Res.ok_bind] at P X B
      refine ⟨mp1, st1, ρ, R1, E.ext x1, ?_⟩
      cases e2 : p.2 ρ st1 with
      | bad => rw [e2] at B; exact (B rfl).elim
      | exc e st2 => rw [e2] at X; exact fun mp' H' cls dd x2 R2 rx => X e st2 rfl mp' H' cls dd (x1.trans x2) R2 rx
      | ok y st2 =>
        intro mp2 H2 u x2 R2 r2
        rw [e2] at P X B
        simp only [Res.ok_bind] at P X B
        refine tPairs_of R2 ((E.ext x1).ext x2) (fun ps st3 e3 mp3 H3 vs x3 R3 r3 => ?_) (fun e st3 e3 mp' H' cls dd x3 R3 rx => ?_) (fun z => ?_)
        · rw [e3] at P
          refine P _ _ rfl mp3 H3 _ ((x1.trans x2).trans x3) R3 ⟨?_, ?_⟩
          · exact RvL.cons (Rv.ext (x2.trans x3) _ _ r1) r3.1
          · exact RvL.cons (Rv.ext x3 _ _ r2) r3.2
        · rw [e3] at X
          exact X e st3 rfl mp' H' cls dd ((x1.trans x2).trans x3) R3 rx
        · rw [z] at B; exact B rfl
theorem keyPs_of {Γ : Gm} {mp : List Addr} {H : Hp} : ∀ {ps : List (D × D)} {vs : List (V × V)} {ks : List (Key × D)}, RvP Γ mp H ps vs → keyPs ps = some ks →
    ∃ kvs : List (Key × V), vs = kvs.map (fun kv => (kV kv.1, kv.2)) ∧ kvs.map (·.1) = ks.map (·.1) ∧ RvL Γ mp H (ks.map (·.2)) (kvs.map (·.2))
  | [], vs, ks, h, e => by
    simp only [keyPs, Option.some.injEq] at e; subst e
    have := h.1.length
    have : vs = [] := by cases vs <;> simp_all
    subst this
    exact ⟨[], rfl, rfl, RvL.nil⟩
  | p :: ps, vs, ks, h, e => by
    simp only [keyPs] at e
    split at e
    · rename_i k ks' e1 e2
      cases e
      cases vs with
      | nil => have := h.1.length; simp at this
      | cons q vs =>
        obtain ⟨h1, h2⟩ := h
        simp only [List.map_cons, RvL, List.cons.injEq] at h1 h2
        obtain ⟨v, r, ⟨rfl, rfl⟩, a1, a2⟩ := h1
        obtain ⟨u, r', ⟨rfl, rfl⟩, b1, b2⟩ := h2
        obtain ⟨kvs, c1, c2, c3⟩ := keyPs_of ⟨a2, b2⟩ e2
        have ek := key_of a1 e1
        refine ⟨(k, q.2) :: kvs, ?_, by simp [c2], RvL.cons b1 c3⟩
        rw [List.map_cons, ← c1]
        congr 1
        exact Prod.ext ek rfl
    · cases e
theorem merge_of {Γ : Gm} {mp : List Addr} {H : Hp} : ∀ {ks : List (Key × D)} {kvs : List (Key × V)} {acc : List (Key × D)} {bcc : List (Key × V)}, kvs.map (·.1) = ks.map (·.1) → RvL Γ mp H (ks.map (·.2)) (kvs.map (·.2)) →
    bcc.map (·.1) = acc.map (·.1) → RvL Γ mp H (acc.map (·.2)) (bcc.map (·.2)) →
    (mergeK bcc kvs).map (·.1) = (ks.foldl (fun acc kv => putD acc kv.1 kv.2) acc).map (·.1) ∧ RvL Γ mp H ((ks.foldl (fun acc kv => putD acc kv.1 kv.2) acc).map (·.2)) ((mergeK bcc kvs).map (·.2))
  | [], kvs, acc, bcc, e, r, e', r' => by
    have : kvs = [] := by cases kvs <;> simp_all
    subst this
    exact ⟨e', r'⟩
  | p :: ks, kvs, acc, bcc, e, r, e', r' => by
    cases kvs with
    | nil => simp at e
    | cons q kvs =>
      simp only [List.map_cons, List.cons.injEq] at e
      simp only [List.map_cons, RvL] at r
      obtain ⟨v, r1, e2, a1, a2⟩ := r
      simp only [List.cons.injEq] at e2
      obtain ⟨rfl, rfl⟩ := e2
      obtain ⟨p1, p2⟩ := put_of (k := p.1) e' r' a1
      have := merge_of (ks := ks) (kvs := kvs) (acc := putD acc p.1 p.2) (bcc := putK bcc p.1 q.2) e.2 a2 p1 p2
      rw [← e.1] at this
      rw [List.foldl_cons]
      unfold mergeK at this ⊢
      rw [List.foldl_cons, ← e.1]
      exact this
theorem keyPs_len : ∀ {ps : List (D × D)} {ks : List (Key × D)}, keyPs ps = some ks → ks.length = ps.length
  | [], ks, e => by simp only [keyPs, Option.some.injEq] at e; subst e; rfl
  | p :: ps, ks, e => by
    simp only [keyPs] at e
    split at e
    · rename_i k ks' e1 e2
      cases e
      simp [keyPs_len e2]
    · cases e
theorem se_disp {X : Cx} {pos : Pos} {keys : List (Option Expr)} {values : List Expr} {kms : List (ME × ME)} (h : SPPs X pos keys values kms) (hall : keys.all (·.isSome) = true := by rfl) (hl : keys.length = values.length := by rfl) (h0 : keys ≠ [] := by exact fun z => nomatch z)
    (h15 : keys.length ≤ 15 := by decide) : SE X (.Dict keys values pos) (mDisp kms) := ⟨fun W tk => PE.imp (pe_disp (h.run W tk) hall hl h0 h15) fun σ H Q ⟨mp, st, ρ, R, E, P⟩ => by
  intro p np
  unfold mDisp at P
  have hp : (mp ++ [p])[st.length]? = some p := by rw [← R.len]; simp
  have RA : RelM (gm X) (mp ++ [p]) (upd H p (.dK [])) (st ++ [.dK []]) := R.push np (show ∃ vs, _ = some (HO.dK vs) ∧ _ from ⟨[], upd_same, rfl, RvL.nil⟩)
  have xA := ext_cell (mp := mp) (o := .dK []) np
  refine tPairs_of RA (E.ext xA) (fun ps st1 e1 mp1 H1 vs x1 R1 r1 => ?_) (fun e st1 e1 mp' H' cls dd x1 R1 rx => ?_) (fun z => ?_)
  · rw [e1] at P
    simp only [Res.ok_bind] at P
    split at P
    · rename_i hc
      have hp1 := x1.pre _ _ hp
      obtain ⟨us, q1, q2, q3⟩ := R1.cell st.length _ p hc hp1
      have : us = [] := by cases us <;> simp_all
      subst this
      split at P
      · rename_i ks ek
        split at P
        · rename_i h15'
          obtain ⟨kvs, c1, c2, c3⟩ := keyPs_of r1 ek
          have hmem : p ∈ mp1 := List.mem_of_getElem? hp1
          obtain ⟨m1, m2⟩ := merge_of (acc := []) (bcc := []) c2 c3 rfl RvL.nil
          refine ⟨q1, kvs, c1, ?_, P mp1 _ (.ref p) ((xA.trans x1).trans (ext_write hmem)) (R1.write hp1 (show ∃ vs, _ = some (HO.dK vs) ∧ _ from ⟨_, upd_same, m1, RvL.ext (ext_write hmem) _ _ m2⟩)) (by simp only [Rv]; exact ⟨p, rfl, hp1⟩)⟩
          have := congrArg List.length c2
          simp only [List.length_map] at this
          omega
        · exact P.elim
      · exact P.elim
    · exact P.elim
  · rw [e1] at P
    exact P mp' H' cls dd (xA.trans x1) R1 rx
  · rw [z] at P; exact P.elim⟩
/-- {} with int and text keys | with tuple keys -/
def mNewK : ME := fun _ st => .ok (.loc st.length) (st ++ [.dK []])
def mNewT : ME := fun _ st => .ok (.loc st.length) (st ++ [.dT []])
theorem se_newK {X : Cx} {pos : Pos} : SE X (.Dict [] [] pos) mNewK := se_of pe_dnewK fun W σ H Q ⟨mp, st, ρ, R, E, P⟩ p np =>
  P _ _ (.ref p) (ext_cell np) (R.push np (show ∃ vs, _ = some (HO.dK vs) ∧ _ from ⟨[], upd_same, rfl, RvL.nil⟩)) (by simp only [Rv]; exact ⟨p, rfl, by rw [← R.len]; simp⟩)
theorem se_newT {X : Cx} {pos : Pos} : SE X (.Dict [] [] pos) mNewT := se_of pe_dnewT fun W σ H Q ⟨mp, st, ρ, R, E, P⟩ p np =>
  P _ _ (.ref p) (ext_cell np) (R.push np (show ∃ vs, _ = some (HO.dT vs) ∧ _ from ⟨[], upd_same, rfl, RvL.nil⟩)) (by simp only [Rv]; exact ⟨p, rfl, by rw [← R.len]; simp⟩)
end VI
set_option maxHeartbeats 4000000
namespace VI
open PySem PySem.Spec PyProof.Rows L2

/-! ### repr -/
def rRepr (K : PySem.W.Frag) : List V → Hp → VK → Prop := fun xs H Q => ∃ x p, xs = [x] ∧ Dp K H x p ∧ p.showable = true ∧ p.hasDict = false ∧ p.depth ≤ 20 ∧ p.shown.length ≤ sizeLine ∧ Q (.str p.shown) H
theorem call_repr {X : Cx} {k : Nat} (r : XR k X) : CallR X (.builtin "repr") (rRepr X.K) := by
  intro pins s σ H xs us Q I rs h
  obtain ⟨x, p, rfl, dp, hs, hd, hdp, hz, q⟩ := h
  obtain ⟨u, rfl, ru⟩ := Vals.one rs
  have here : ∀ tk t, EP X pins σ Q (.str p.shown tk) { s with toks := t } := fun tk t => ⟨.str p.shown, H, I.tok t, ⟨_, rfl⟩, q⟩
  have big : X.A.guards = some [] → X.A.units + (p.depth + 1) < cLine → ∀ a, u = .ref a → wpAny (model X.prog X.w) X.A (call (.builtin "repr") [.ref a]) (EP X pins σ Q) X.xe s := fun hg hu a ea => by
    subst ea
    obtain ⟨as, rd⟩ := Dp.reads I p x _ dp ru
    exact repr_of_reads' rd hs (PyData.noDict_hsm hd) hg hu (fun _ _ e => e) (fun h' v tk hk => ⟨.str p.shown, H, I.kept (t' := tk) hk, ⟨_, rfl⟩, q⟩) hz
  have hu : X.A.units + (p.depth + 1) < cLine := by have := r.room.un; omega
  cases dp with
  | non => cases ru; exact PySem.P.repr_of_none (by have := here s.toks (s.toks + 1); simp only [PyData.shown] at this; exact this)
  | bl b => cases ru; exact PySem.P.repr_of_bool (by have := here s.toks (s.toks + 1); simp only [PyData.shown] at this; exact this)
  | int i =>
    obtain ⟨t, rfl⟩ := ru
    exact PySem.P.repr_of_int (by simpa [PyData.showable] using hs) (by have := here s.toks (s.toks + 1); simp only [PyData.shown] at this; exact this)
  | str y =>
    obtain ⟨t, rfl⟩ := ru
    exact PySem.P.repr_of_str (by have := here s.toks (s.toks + 1); simp only [PyData.shown] at this; exact this) (by simpa only [PyData.shown] using hz)
  | lst q1 q2 => cases ru; exact big r.gd hu _ rfl
  | tup q1 q2 => cases ru; exact big r.gd hu _ rfl
def reprOk (p : PyData) : Bool := p.showable && decide (p.shown.length ≤ LINE)
/-- what repr tells -/
def reprD : F1 := fun d st => if okD 20 (topD d st) = true then (match toPy (topD d st) with
  | some p => if reprOk p = true then .ok (.str p.shown) st else .bad
  | none => .bad) else .bad
theorem srv_repr {Γ : Gm} : SrvL Γ (f1 reprD) (rRepr Γ.K) := srvL1 (by
  intro mp H st d x Q W R h P
  unfold reprD at P
  split at P
  · rename_i hk
    obtain ⟨p, e1, c1, l1⟩ := okD_py _ _ hk
    rw [e1] at P
    simp only at P
    split at P
    · rename_i hz
      simp only [reprOk, Bool.and_eq_true, decide_eq_true_eq] at hz
      exact ⟨x, p, rfl, top_dp R h e1, hz.1, PyData.hasDict_of_canLay p c1, l1, line_le hz.2, post_here P R (by simp [Rv])⟩
    · exact P.elim
  · exact P.elim)

/-! ### exceptions as values -/
/-- what the text says of an exception class that is asked -/
structure XoF (K : PySem.W.Frag) (C : Addr) : Prop where
  hcl : (PySem.W.clsIn K C).isSome = true
  ga : PySem.W.findIn K (.ref C) "__getattribute__" = some (some (.builtin "BaseException.__getattribute__"))
  gg : PySem.W.findIn K (.ref C) "__getattr__" = some none
  exC : PySem.W.subIn K (.ref C) (.type "BaseException") = some true
  hdC : PySem.W.hasDictIn K C = true
  cl : PySem.W.findIn K (.ref C) "__class__" = some (some (.builtin "object.__class__"))
  hn : PySem.W.specialIn K (.builtin "object.__class__") "__get__" = some (some (.builtin "getset_descriptor.__get__"))
  ht : PySem.W.takesIn K (.builtin "object.__class__") = some true
  hm : PySem.W.mroIn K C (.type "object") = some true
def dB {α : Type} [DecidableEq α] (a b : α) : Bool := decide (a = b)
theorem dB_ok {α : Type} [DecidableEq α] {a b : α} (h : dB a b = true) : a = b := of_decide_eq_true h
def xoFB (K : PySem.W.Frag) (C : Addr) : Bool := (PySem.W.clsIn K C).isSome && (dB (PySem.W.findIn K (.ref C) "__getattribute__") (some (some (.builtin "BaseException.__getattribute__"))) && (dB (PySem.W.findIn K (.ref C) "__getattr__") (some none) &&
  (dB (PySem.W.subIn K (.ref C) (.type "BaseException")) (some true) && (PySem.W.hasDictIn K C && (dB (PySem.W.findIn K (.ref C) "__class__") (some (some (.builtin "object.__class__"))) &&
  (dB (PySem.W.specialIn K (.builtin "object.__class__") "__get__") (some (some (.builtin "getset_descriptor.__get__"))) && (dB (PySem.W.takesIn K (.builtin "object.__class__")) (some true) && dB (PySem.W.mroIn K C (.type "object")) (some true))))))))
theorem xoFB_ok {K : PySem.W.Frag} {C : Addr} (h : xoFB K C = true) : XoF K C := by
  unfold xoFB at h
  simp only [Bool.and_eq_true] at h
  obtain ⟨h1, h2, h3, h4, h5, h6, h7, h8, h9⟩ := h
  exact ⟨h1, dB_ok h2, dB_ok h3, dB_ok h4, h5, dB_ok h6, dB_ok h7, dB_ok h8, dB_ok h9⟩
/-- an exception object stands at a -/
def IsXo (H : Hp) (C a : Addr) : Prop := H a = some (ExO (.ref C) a) ∨ ∃ d, H a = some (exo a C d) ∧ ∀ dx, d = some dx → ∃ fs, H dx = some (exd dx fs)
theorem xo_inst {X : Cx} {pins : List (Addr × Obj)} {σ : L2.St} {H : Hp} {s : Shared} {C a : Addr} (I : L2.Inv X pins σ H s) (h : IsXo H C a) : ∃ ox od, PySem.W.InstAt s.heap a ox C od := by
  rcases h with h | ⟨d, h, hd⟩
  · have x := I.hok a _ h
    obtain ⟨⟨oe, vs, e, z, dd, _⟩, _⟩ := x
    obtain ⟨z1, z2⟩ := z
    refine ⟨oe, none, e, z1, ?_, ?_⟩
    · unfold PySem.W.notCls; rw [dd] <;> rfl
    · rw [z2]; trivial
  · obtain ⟨t1, e⟩ := exo_at I.hok h
    cases d with
    | none => exact ⟨_, none, e, rfl, rfl, trivial⟩
    | some dx =>
      obtain ⟨fs, hf⟩ := hd dx rfl
      obtain ⟨mA, ⟨od, es, ep, ho, _⟩, _⟩ := exd_at I.hok hf
      exact ⟨_, some od, e, rfl, rfl, ho⟩
def rIsXo (K : PySem.W.Frag) : List V → Hp → VK → Prop := fun xs H Q => ∃ (a C : Addr) (c : V) (u : Value) (b : Bool), xs = [.ref a, c] ∧ ClsV c u ∧ IsXo H C a ∧ XoF K C ∧ PySem.W.kitOne K (.ref C) u = some b ∧ Q (.bl b) H
theorem call_isXo {X : Cx} : CallR X (.builtin "isinstance") (rIsXo X.K) := by
  intro pins s σ H xs us Q I r h
  obtain ⟨a, C, c, u, b, rfl, k, hi, F, e, q⟩ := h
  obtain ⟨u1, u2, rfl, r1, r2⟩ := vals2 r
  have e2 := k.eq r2
  subst e2
  cases (show u1 = Value.ref a from r1)
  obtain ⟨ox, od, J⟩ := xo_inst I hi
  exact PySem.W.kia_one (PySem.W.kitx_exc (ox := ox) (od := od) F.hcl F.ga F.gg F.exC F.cl F.hn F.ht F.hm) I.kIn J e (fun z => nomatch z) fun tk => ⟨.bl b, H, I.tok tk, rfl, q⟩
/-- isinstance(e, c) for exceptions of the classes in tab -/
def isXoD (tab : List (Str × Bool)) : F1 := fun d st => match d with
  | .loc n => match st[n]? with
    | some (.xo c _) => match tab.lookup c with
      | some b => .ok (.bl b) st
      | none => .bad
    | _ => .bad
  | _ => .bad
theorem xo_is {Γ : Gm} {mp : List Addr} {H : Hp} {a : Addr} {c : Str} {fs : List (Str × D)} (h : RelC Γ mp H a (.xo c fs)) : ∃ C, Γ.mg c = some (.ref C) ∧ IsXo H C a := by
  obtain ⟨C, m, ⟨_, h⟩ | ⟨d, vs, h, hd, _⟩⟩ := h
  · exact ⟨C, m, .inl h⟩
  · exact ⟨C, m, .inr ⟨some d, h, fun dx e => by cases e; exact ⟨vs, hd⟩⟩⟩
/-- the class x and the answers for the classes in tab -/
def XoTab (Γ : Gm) (x : Str) (tab : List (Str × Bool)) : Prop := ∃ D, Γ.mg x = some (.ref D) ∧ ∀ c b, tab.lookup c = some b → ∃ C, Γ.mg c = some (.ref C) ∧ XoF Γ.K C ∧ PySem.W.kitOne Γ.K (.ref C) (.ref D) = some b
/-- .. the built-in class T -/
def XoTabT (Γ : Gm) (T : String) (tab : List (Str × Bool)) : Prop := ∀ c b, tab.lookup c = some b → ∃ C, Γ.mg c = some (.ref C) ∧ XoF Γ.K C ∧ PySem.W.kitOne Γ.K (.ref C) (.type T) = some b
section
variable {X : Cx} {e : Expr} {me : ME} {x : Str} {p p2 pos : Pos} {tab : List (Str × Bool)} {T : String}
theorem tIsXo_of {Γ : Gm} {W : WX} {σ : L2.St} {H : Hp} {Q : VK} {c : V} {u : Value} (k : ClsV c u) (hT : ∀ x b, tab.lookup x = some b → ∃ C, Γ.mg x = some (.ref C) ∧ XoF Γ.K C ∧ PySem.W.kitOne Γ.K (.ref C) u = some b) (h : tE Γ W (m1 (isXoD tab) me) σ H Q) :
    tE Γ W me σ H (fun x H1 => rIsXo Γ.K [x, c] H1 Q) := by
  obtain ⟨mp, st, ρ, R, E, P⟩ := tG_bind (Rel := Rv Γ) (m := me) (k := fun _ d st1 => isXoD tab d st1) h
  refine ⟨mp, st, ρ, R, E, P.mono fun v H1 ⟨mp1, st1, ρ1, d, R1, E1, r1, P1⟩ => ?_⟩
  unfold isXoD at P1
  split at P1
  · rename_i n
    simp only [Rv] at r1
    obtain ⟨a, rfl, ha⟩ := r1
    split at P1
    · rename_i y fs hc
      split at P1
      · rename_i b hb
        obtain ⟨C, hC, F, ki⟩ := hT y b hb
        obtain ⟨C', hC', hI⟩ := xo_is (R1.cell n _ a hc ha)
        have : C' = C := by rw [hC] at hC'; cases hC'; rfl
        subst this
        exact ⟨a, C', c, u, b, rfl, k, hI, F, ki, post_here P1 R1 (by simp [Rv])⟩
      · exact P1.elim
    · exact P1.elim
  · exact P1.elim
theorem se_isXo (T : XoTab (gm X) x tab) (hg : Gl X "isinstance") (hm : X.mg "isinstance" = none) (he : SE X e me) (hgx : Gl X x) (hdb : (x == ("__debug__" : Str)) = false := by decide)
    (hs : starEach [e, .Name x p2] X.env = (false, eval e X.env) :: starEach [.Name x p2] X.env := by rfl) (hs2 : starEach [.Name x p2] X.env = (false, eval (.Name x p2) X.env) :: starEach [] X.env := by rfl)
    (hpl : (backTo pos (starEach [.Name x p2] X.env)).any (·.1) = false := by rfl) : SE X (.Call (.Name "isinstance" p) [e, .Name x p2] [] pos) (m1 (isXoD tab) me) := by
  obtain ⟨D, hD, hT⟩ := T
  exact ⟨fun W tk => PE.imp (pe_callB call_isXo hg hm boot_isinstance (pa_cons (he.run W tk) (pa_cons (pe_glob (v := .ref D) hgx hD rfl hdb) pa_nil hs2) hs) (by decide) (by decide) hs hpl) fun σ H Q q => tIsXo_of (.own D) hT q⟩
theorem se_isXoT (hT : XoTabT (gm X) T tab) (hv : bootBuiltins x = some (.type T)) (hg : Gl X "isinstance") (hm : X.mg "isinstance" = none) (he : SE X e me) (hgx : Gl X x) (hmx : X.mg x = none) (hn : x ≠ "__name__" := by decide) (hdb : (x == ("__debug__" : Str)) = false := by decide)
    (hs : starEach [e, .Name x p2] X.env = (false, eval e X.env) :: starEach [.Name x p2] X.env := by rfl) (hs2 : starEach [.Name x p2] X.env = (false, eval (.Name x p2) X.env) :: starEach [] X.env := by rfl)
    (hpl : (backTo pos (starEach [.Name x p2] X.env)).any (·.1) = false := by rfl) : SE X (.Call (.Name "isinstance" p) [e, .Name x p2] [] pos) (m1 (isXoD tab) me) :=
  ⟨fun W tk => PE.imp (pe_callB call_isXo hg hm boot_isinstance (pa_cons (he.run W tk) (pa_cons (pe_bltn (v := .ty T) hgx hmx hv rfl hn hdb) pa_nil hs2) hs) (by decide) (by decide) hs hpl) fun σ H Q q => tIsXo_of (.ty T) hT q⟩
end

/-! #### e.f -/
def attrXo (f : Str) : F1 := fun d st => match d with
  | .loc n => match st[n]? with
    | some (.xo _ fs) => match fs.lookup f with
      | some z => .ok z st
      | none => .bad
    | _ => .bad
  | _ => .bad
theorem lookup_rel {Γ : Gm} {mp : List Addr} {H : Hp} {f : Str} : ∀ {fs : List (Str × D)} {vs : List (Str × V)} {z : D}, vs.map (·.1) = fs.map (·.1) → RvL Γ mp H (fs.map (·.2)) (vs.map (·.2)) → fs.lookup f = some z → ∃ v, vs.lookup f = some v ∧ Rv Γ mp H z v
  | [], vs, z, e, r, h => by cases h
  | p :: fs, vs, z, e, r, h => by
    cases vs with
    | nil => simp at e
    | cons q vs =>
      simp only [List.map_cons, List.cons.injEq] at e
      simp only [List.map_cons, RvL] at r
      obtain ⟨v, r', e2, r1, r2⟩ := r
      simp only [List.cons.injEq] at e2
      obtain ⟨rfl, rfl⟩ := e2
      obtain ⟨p1, p2⟩ := p
      obtain ⟨q1, q2⟩ := q
      obtain ⟨e1, e3⟩ := e
      simp only at e1 r1; subst e1
      by_cases hf : f = q1
      · subst hf
        simp [List.lookup] at h ⊢
        subst h
        exact r1
      · have hb : (f == q1) = false := by simpa using hf
        simp only [List.lookup, hb] at h ⊢
        exact lookup_rel e3 r2 h
def rAtX (K : PySem.W.Frag) (f : Str) : V → Hp → VK → Prop := fun x H Q => ∃ (a C dx : Addr) (fs : List (Str × V)) (v : V), x = .ref a ∧ XoF K C ∧ PySem.W.findIn K (.ref C) f = some none ∧ H a = some (exo a C (some dx)) ∧ H dx = some (exd dx fs) ∧ fs.lookup f = some v ∧ Q v H
theorem pe_atX {X : Cx} {e : Expr} {te : TE} {f : Str} {pos : Pos} (he : PE X e te) (hb : attributeBase e f X.env (eval e X.env) = eval e X.env := by rfl) : PE X (.Attribute e f pos) (fun σ H Q => te σ H fun x H1 => rAtX X.K f x H1 Q) := by
  refine ⟨fun pins s σ H Q I h => attr_of hb (thn (he.run pins s σ H _ I h) fun u s1 hh => ?_)⟩
  obtain ⟨x, H1, I1, rx, a, C, dx, fs, v, rfl, F, hno, e1, e2, hl, q⟩ := hh
  cases rx
  obtain ⟨t1, ho⟩ := exo_at I1.hok e1
  obtain ⟨mA, hns, hr⟩ := exd_at I1.hok e2
  obtain ⟨od, hod, hlk⟩ := lookIn_ns hns
  obtain ⟨w, hw, rw'⟩ := RelO.some_of (v := v) (o := mA f) (by rw [← hl]; exact hr f)
  exact HandSPX.exc_get I1.kIn ⟨ho, rfl, rfl, hod⟩ F.ga F.gg F.exC (PySem.W.findObj_own F.hdC hno rfl (by rw [hlk, hw])) (handed_of rw') ⟨v, H1, I1.tok _, rw', q⟩
/-- the classes whose field f is asked -/
def XoAt (Γ : Gm) (f : Str) (cs : List Str) : Prop := ∀ c ∈ cs, ∃ C, Γ.mg c = some (.ref C) ∧ XoF Γ.K C ∧ PySem.W.findIn Γ.K (.ref C) f = some none
def attrX (f : Str) (cs : List Str) : F1 := fun d st => match d with
  | .loc n => match st[n]? with
    | some (.xo c fs) => if c ∈ cs then (match fs.lookup f with
      | some z => .ok z st
      | none => .bad) else .bad
    | _ => .bad
  | _ => .bad
theorem se_atX {X : Cx} {e : Expr} {me : ME} {f : Str} {cs : List Str} {pos : Pos} (T : XoAt (gm X) f cs) (he : SE X e me) (hb : attributeBase e f X.env (eval e X.env) = eval e X.env := by rfl) : SE X (.Attribute e f pos) (m1 (attrX f cs) me) :=
  ⟨fun W tk => PE.imp (pe_atX (he.run W tk) hb) fun σ H Q h => by
    obtain ⟨mp, st, ρ, R, E, P⟩ := tG_bind (Rel := Rv (gm X)) (m := me) (k := fun _ d st1 => attrX f cs d st1) h
    refine ⟨mp, st, ρ, R, E, P.mono fun v H1 ⟨mp1, st1, ρ1, d, R1, E1, r1, P1⟩ => ?_⟩
    unfold attrX at P1
    split at P1
    · rename_i n
      simp only [Rv] at r1
      obtain ⟨a, rfl, ha⟩ := r1
      split at P1
      · rename_i c fs hc
        split at P1
        · rename_i hmem
          split at P1
          · rename_i z hz
            obtain ⟨C, hC, F, hno⟩ := T c hmem
            obtain ⟨C', hC', ⟨n0, _⟩ | ⟨dx, vs, h1, h2, nd, k, r⟩⟩ := R1.cell n _ a hc ha
            · subst n0; cases hz
            · have : C' = C := by rw [hC] at hC'; cases hC'; rfl
              subst this
              obtain ⟨w, hw, rz⟩ := lookup_rel k r hz
              exact ⟨a, C', dx, vs, w, rfl, F, hno, h1, h2, hw, post_here P1 R1 rz⟩
          · exact P1.elim
        · exact P1.elim
      · exact P1.elim
    · exact P1.elim⟩

/-! #### C(..) -/
/-- what __init__ does: the fields fs are set, in this order -/
def spI (fs : List Str) (C : Addr) : Sp := fun vs H Q _ => ∃ (a : Addr) (ws : List V), vs = .ref a :: ws ∧ ws.length = fs.length ∧ H a = some (exo a C none) ∧
  ∀ (d : Addr) (H' : Hp), H d = none → d ≠ a → (∀ b, b ≠ d → b ≠ a → H' b = H b) → H' a = some (exo a C (some d)) → H' d = some (exd d (fs.zip ws).reverse) → Q .non H'
/-- a class whose __init__ sets fs -/
def MkS (P : Program) (w : World) (K : PySem.W.Frag) (mg : Str → Option Value) (base : Heap) (k : Nat) (c : Str) (fs : List Str) : Prop :=
  ∃ C fI fd, mg c = some (.ref C) ∧ OexC K C ∧ PySem.W.findIn K (.ref C) "__init__" = some (some (.ref fI)) ∧ PySem.W.typeIn K (.ref fI) = some (.type "function") ∧ Binds K fd ("self" :: fs) [] ∧ FnOk P w K mg base CX0 k fI fd ("self" :: fs) (spI fs C)
section
variable {X : Cx} {x : Str} {e : Expr} {es : List Expr} {ta : TA} {p pos : Pos} {k : Nat}
/-- C(e, ..) as a value -/
theorem pe_mko {CX : CXT} {C fI : Addr} {fd : FuncData} {ps : List Str} {sp : Sp} (T : OexC X.K C) (iC : PySem.W.findIn X.K (.ref C) "__init__" = some (some (.ref fI))) (tI : PySem.W.typeIn X.K (.ref fI) = some (.type "function"))
    (F1 : FnOk X.prog X.w X.K X.mg X.base CX k fI fd ps sp) (hr : Room (k + 1) X.A) (hb : Binds X.K fd ps []) (hx : Passes CX X (fun _ _ _ => False)) (hg : Gl X x) (hm : X.mg x = some (.ref C)) (ha : PA X (e :: es) ta)
    (hdb : (x == ("__debug__" : Str)) = false := by decide) (he : starEach (e :: es) X.env = (false, eval e X.env) :: starEach es X.env := by rfl) (hpl : (backTo pos (starEach es X.env)).any (·.1) = false := by rfl) :
    PE X (.Call (.Name x p) (e :: es) [] pos) (fun σ H Q => ta σ H fun vs H1 => vs.length ≤ 1000 ∧ ∀ a, H1 a = none → sp (.ref a :: vs) (upd H1 a (exo a C none)) (fun v H2 => v = .non ∧ Q (.ref a) H2) (fun _ _ _ => False)) := by
  refine ⟨fun pins s σ H Q I h => ?_⟩
  obtain ⟨nm, q, N, bs, bm, sn, sub, ab, col, dd, k0, k1, k2, k3, k5, hC, hbm⟩ := T.cls
  refine wpAny_Call_Name_kw (ld_glob I hg hm ?_ hdb)
  refine PySem.W.callWith_K (h₀ := X.base) I.ok.mod.kin T.kC (thn (ha.run pos pins s σ H _ I h) fun us s1 ⟨vs, H1, I1, r1, hz, q1⟩ => ⟨I1.kIn, ?_⟩) he hpl
  obtain ⟨hp, g, dr, tk, os⟩ := s1
  have hsz : hp.objs.size ≤ hp.objs.size + 1 := Nat.le_succ _
  have hq := q1 (hp.objs.size + 1) (I1.hok.fresh hsz)
  have kk : ∀ b o, hp.get? b = some o → ((hp.push (PySem.W.kdv_tup us)).push (PySem.HandSPX.excO C hp.objs.size)).get? b = some o := fun b o e => Heap.get?_push_of_some _ (Heap.get?_push_of_some _ e)
  have I2 := I1.laid (t' := tk) (a := hp.objs.size + 1) (o := exo (hp.objs.size + 1) C none) (h' := (hp.push (PySem.W.kdv_tup us)).push (PySem.HandSPX.excO C hp.objs.size)) kk hsz (exo_ok (by heap_get))
  have r2 : Vals (V.ref (hp.objs.size + 1) :: vs) (Value.ref (hp.objs.size + 1) :: us) := .cons rfl r1
  have hus : us.length ≤ sizeLine := by rw [← Paired.length r1, sizeLine_eq]; omega
  have hl : (Value.ref (hp.objs.size + 1) :: us).length = ps.length := by
    rw [← F1.len _ _ _ _ hq, List.length_cons, List.length_cons, Paired.length r1]
  refine wpAny_call (PySem.HandSPX.call_own F.excBase_ValueError (fun Y => PySem.HandSPX.refsVE_contains Y bm hbm) (I1.kIn _ _ hC) (PySem.W.looks_findIn I1.kIn iC) (fun self => PySem.W.bind_fn I1.kIn self tI) hus
    (codeAny_mono (F1.run _ X.stack _ _ ⟨Value.ref (hp.objs.size + 1) :: us, []⟩ (Value.ref (hp.objs.size + 1) :: us) _ _ (fun _ _ _ => False) (hr.make C us []) (I2.env0.make C us []) (by have b := hb _ (Value.ref (hp.objs.size + 1) :: us) I2.kIn (by rw [List.append_nil]; exact hl); rwa [List.append_nil] at b) r2 hq) fun r s' hq' => ?_))
  cases r with
  | error er => exact hx pins σ _ _ er s' I2 hq'
  | ok fl =>
    cases fl with
    | ret u =>
      obtain ⟨v, H', J, rv, ev, q2⟩ := I2.after hq'
      subst ev
      exact ⟨rv, .ref (hp.objs.size + 1), H', J, rfl, q2⟩
    | next => exact False.elim hq'
    | brk => exact False.elim hq'
    | cont => exact False.elim hq'
end
section
variable {X : Cx} {x : Str} {e : Expr} {es : List Expr} {ms : List ME} {p pos : Pos} {k : Nat} {fs : List Str} {Γ : Gm} {mp : List Addr} {H H' : Hp} {st : Mem}
def mMk (c : Str) (fs : List Str) (ms : List ME) : ME := mF (fun ds st => if ds.length = fs.length then .ok (.loc st.length) (st ++ [.xo c (fs.zip ds).reverse]) else .bad) ms
theorem zip_rel {ds : List D} {vs : List V} (r : RvL Γ mp H ds vs) (hl : ds.length = fs.length) : (fs.zip vs).reverse.map (·.1) = (fs.zip ds).reverse.map (·.1) ∧ RvL Γ mp H ((fs.zip ds).reverse.map (·.2)) ((fs.zip vs).reverse.map (·.2)) := by
  have h2 := r.length
  rw [List.map_reverse, List.map_reverse, List.map_reverse, List.map_reverse, List.map_fst_zip (by omega), List.map_fst_zip (by omega), List.map_snd_zip (by omega), List.map_snd_zip (by omega)]
  refine ⟨rfl, RvL.of_get (by simp [h2]) fun i d v e1 e2 => ?_⟩
  have hi : i < ds.length := by have := (List.getElem?_eq_some_iff.mp e1).1; simpa using this
  rw [List.getElem?_reverse (by omega)] at e1 e2
  rw [h2] at e1
  obtain ⟨u, h3, h4⟩ := r.get e1
  rw [h3] at e2; cases e2; exact h4
/-- an exception object is new -/
theorem xo_new {C a d : Addr} {c : Str} {ds : List D} {vs : List V} (R : RelM Γ mp H st) (hm : Γ.mg c = some (.ref C)) (na : H a = none) (nd : upd H a (exo a C none) d = none) (hd : d ≠ a) (hl : ds.length = fs.length) (r : RvL Γ mp H ds vs)
    (h0 : ∀ b, b ≠ d → b ≠ a → H' b = upd H a (exo a C none) b) (h1 : H' a = some (exo a C (some d))) (h2 : H' d = some (exd d (fs.zip vs).reverse)) :
    Ext mp H (mp ++ [a]) H' ∧ RelM Γ (mp ++ [a]) H' (st ++ [.xo c (fs.zip ds).reverse]) := by
  have nd' : H d = none := by rw [upd_ne hd] at nd; exact nd
  have eH : H' = upd (upd H d (exd d (fs.zip vs).reverse)) a (exo a C (some d)) := by
    funext b
    by_cases hb : b = a
    · subst hb; rw [upd_same, h1]
    · by_cases hb2 : b = d
      · subst hb2; rw [upd_ne hb, upd_same, h2]
      · rw [upd_ne hb, upd_ne hb2, h0 b hb2 hb, upd_ne hb]
  have R1 : RelM Γ mp (upd H d (exd d (fs.zip vs).reverse)) st := R.laid nd'
  have x1 : Ext mp H mp (upd H d (exd d (fs.zip vs).reverse)) := ext_laid nd'
  have na1 : upd H d (exd d (fs.zip vs).reverse) a = none := by rw [upd_ne (Ne.symm hd)]; exact na
  have x2 : Ext mp (upd H d (exd d (fs.zip vs).reverse)) (mp ++ [a]) (upd (upd H d (exd d (fs.zip vs).reverse)) a (exo a C (some d))) := ext_cell na1
  have dn : d ∉ mp := R.fresh nd'
  obtain ⟨z1, z2⟩ := zip_rel r hl
  rw [eH]
  refine ⟨x1.trans x2, R1.push na1 ⟨C, hm, .inr ⟨d, _, upd_same, ?_, ?_, z1, RvL.ext (x1.trans x2) _ _ z2⟩⟩⟩
  · rw [upd_ne hd, upd_same]
  · intro z
    rcases List.mem_append.mp z with z | z
    · exact dn z
    · exact hd (by simpa using z)
theorem se_mk (T : MkS X.prog X.w X.K X.mg X.base k x fs) (hr : XR (k + 1) X) (hg : Gl X x) (ha : SA X (e :: es) ms) (hl : fs.length ≤ 1000 := by decide)
    (hdb : (x == ("__debug__" : Str)) = false := by decide) (he : starEach (e :: es) X.env = (false, eval e X.env) :: starEach es X.env := by rfl) (hpl : (backTo pos (starEach es X.env)).any (·.1) = false := by rfl) :
    SE X (.Call (.Name x p) (e :: es) [] pos) (mMk x fs ms) := by
  obtain ⟨C, fI, fd, hm, O, iC, tI, hb, F1⟩ := T
  refine ⟨fun W tk => PE.imp (pe_mko O iC tI F1 hr.room hb pass0 hg hm (ha.run W tk) hdb he hpl) fun σ H Q h => ?_⟩
  obtain ⟨mp, st, ρ, R, E, P⟩ := tA_of h
  refine ⟨mp, st, ρ, R, E, P.mono fun vs H1 ⟨mp1, st1, ds, hd, R1, rl, P1⟩ => ?_⟩
  split at P1
  · rename_i hds
    refine ⟨by rw [← rl.length]; omega, fun a na => ⟨a, vs, rfl, by rw [← rl.length]; exact hds, upd_same, fun d H' nd hda h0 h1 h2 => ⟨rfl, ?_⟩⟩⟩
    obtain ⟨x1, R2⟩ := xo_new R1 hm na nd hda hds rl h0 h1 h2
    exact P1 _ H' (.ref a) x1 R2 (by simp only [Rv]; exact ⟨a, rfl, by rw [← R1.len]; simp⟩)
  · exact P1.elim
/-! #### raise C(..) -/
def sRaise (c : Str) (fs : List Str) (ms : List ME) : MS := fun ρ st => (mArgs ms ρ st).toS ρ fun ds st1 => if ds.length = fs.length then .exc ⟨c, (fs.zip ds).reverse⟩ ρ st1 else .bad
theorem s_raise (T : MkS X.prog X.w X.K X.mg X.base k x fs) (hr : XC (k + 1) X) (hg : Gl X x) (ha : SA X (e :: es) ms) {pos' : Pos} (hl : fs.length ≤ 1000 := by decide)
    (hdb : (x == ("__debug__" : Str)) = false := by decide) (he : starEach (e :: es) X.env = (false, eval e X.env) :: starEach es X.env := by rfl) (hpl : (backTo pos (starEach es X.env)).any (·.1) = false := by rfl) :
    SS X (.Raise (some (.Call (.Name x p) (e :: es) [] pos)) none pos') (sRaise x fs ms) := by
  obtain ⟨C, fI, fd, hm, O, iC, tI, hb, F1⟩ := T
  refine ⟨fun W tk => PS.imp (ps_raise hr.calm tk (pmk_oex (ds := []) (dvs := []) O iC tI F1 hr.xr.room hb .nil pass0 hg hm (ha.run W tk) hdb he hpl)) fun D σ H h => ?_⟩
  obtain ⟨mp, st, ρ, R, E, P⟩ := tS_toS (Rel := RvL (gm X)) (x := mArgs ms) (k := fun ρ ds st1 => if ds.length = fs.length then .exc ⟨x, (fs.zip ds).reverse⟩ ρ st1 else .bad) h
  refine ⟨mp, st, ρ, R, E, P.mono fun vs H1 ⟨mp1, st1, ρ1, ds, R1, E1, rl, P1⟩ => ?_⟩
  split at P1
  · rename_i hds
    refine ⟨by rw [← rl.length]; omega, fun a na => ⟨a, vs, by rw [List.append_nil], by rw [← rl.length]; exact hds, upd_same, fun d H' nd hda h0 h1 h2 => ⟨rfl, d, _, h1, h2, ?_, ?_⟩⟩⟩
    · rw [upd_ne hda] at nd; exact nd
    · have nd' : H1 d = none := by rw [upd_ne hda] at nd; exact nd
      have eH : upd (del H' a) d (.xd (fs.zip vs).reverse) = upd H1 d (.xd (fs.zip vs).reverse) := by
        funext b
        by_cases hb : b = d
        · subst hb; rw [upd_same, upd_same]
        · rw [upd_ne hb, upd_ne hb]
          by_cases hb2 : b = a
          · subst hb2; rw [del_same, na]
          · rw [del_ne hb2, h0 b hb hb2, upd_ne hb2]
      rw [eH]
      obtain ⟨z1, z2⟩ := zip_rel rl hds
      exact P1 mp1 _ (.ref C) (some d) σ (ext_laid nd') (R1.laid nd') ⟨C, d, _, hm, rfl, rfl, upd_same, R1.fresh nd', z1, RvL.ext (ext_laid nd') _ _ z2⟩ (E1.ext (ext_laid nd'))
  · exact P1.elim
end
end VI
set_option maxHeartbeats 4000000
namespace VI
open PySem PySem.Spec PyProof.Rows L2

/-! ### the law's end -/
section
variable {P : Program} {w : World} {K : PySem.W.Frag} {mg mb : Str → Option Value} {k : Nat} {fa a : Addr} {fd : FuncData} {x : Str} {F : FL} {s₁ : Shared} {vs : List Value} {ns : List Int}
/-- from a heap in which the script alone may be tracked -/
theorem end_core (KX : K.In s₁.heap) (hns : s₁.heap.Ns mainGlobals mg) (hb : s₁.heap.Ns builtinsNs mb) (hbb : ∀ x : Str, x ≠ "__name__" → mb x = bootBuiltins x) (hlim : s₁.heap.NoLimit) (hg : s₁.gens = #[])
    (ha : s₁.heap.get? a = some { cls := .type "list", data := .seq vs.toArray }) (hr : Room k callerA)
    (FN : ∀ base : Heap, K.In base → base.Ns mainGlobals mg → FnS P w K mg base k fa fd [x] F) (hbind : ∀ (s : Shared) (u : Value), BindsTo s fd ⟨[u], []⟩ [(x, u)])
    (hF : ∃ st, F [.fz (ns.map .int)] [] = .ok (.bl true) st) (H : Hp) (hO : Only H) (hS : SqL K H a (ns.map V.int)) (hok : HOk P w H s₁.heap) (hA : ∀ b, H b ≠ none → b = a) (hK : H a ≠ none → K.lookup a = none) :
    codeAny (model P w) callerA (.call (.ref fa) ⟨[.ref a], []⟩) (fun r s' => r = .ok (.ret (.bool true)) ∧ OldK s₁.heap s'.heap ∧ s'.os = s₁.os ∧ AllBare s'.gens) s₁ := by
  have dictN : ∀ {b : Addr} {o : Obj} {es : Array DictEntry} {ep : Nat}, s₁.heap.get? b = some o → o.data = .dict es ep → H b = none := fun {b o es ep} e dt => by
    cases q : H b with
    | none => rfl
    | some u =>
      have e' : b = a := hA b (by rw [q]; simp)
      rw [e', ha] at e
      cases e
      cases (show Data.seq vs.toArray _ = Data.dict es ep from dt)
  have nsB : ∀ {b : Addr} {m : Str → Option Value}, s₁.heap.Ns b m → (hidT s₁.heap H).Ns b m := fun {b m} ⟨o, es, ep, e, dt, r⟩ => ⟨o, es, ep, hidT_get e (dictN e dt), dt, r⟩
  have kB : K.In (hidT s₁.heap H) := fun b o e => hidT_get (KX b o e) (by
    cases q : H b with
    | none => rfl
    | some u =>
      have e' : b = a := hA b (by rw [q]; simp)
      rw [e', hK (by rw [← e', q]; simp)] at e
      cases e)
  have hM : Mod K mg (hidT s₁.heap H) := ⟨kB, nsB hns, ⟨mb, nsB hb, hbb⟩, by obtain ⟨mc, h1, h2⟩ := hlim; exact ⟨mc, nsB h1, h2⟩⟩
  have e0 : Env0 P w K mg (hidT s₁.heap H) callerA [] s₁ H := ⟨rfl, hM, fun b o e => of_hidT e, Nat.le_of_eq (hidT_size _ _), trivial, fun b z => absurd (show b ∈ ([] : List Addr) from z) (by simp), hok, .of_eq hg⟩
  have R0 : RelM ⟨K, mg⟩ [] H [] := ⟨rfl, List.nodup_nil, fun n c b e => by simp at e⟩
  have hIs : ∀ l : List Int, RvL ⟨K, mg⟩ [] H (l.map D.int) (l.map V.int) := fun l => by
    induction l with
    | nil => exact RvL.nil
    | cons i l ih => exact RvL.cons (by simp [Rv]) ih
  have rD : RvL ⟨K, mg⟩ [] H [.fz (ns.map .int)] [.ref a] := RvL.cons (by
    simp only [Rv]
    exact ⟨a, _, rfl, hS.elim (fun z => .inl ⟨z, by simp⟩) .inr, hIs ns⟩) RvL.nil
  obtain ⟨st, hF⟩ := hF
  refine codeAny_mono ((FN _ kB (nsB hns)).run callerA [] s₁ H ⟨[.ref a], []⟩ [.ref a] [.ref a] _ [] [] (fun v _ => v = .bl true) (fun _ _ _ => False) hr rfl e0 (hbind s₁ (.ref a)) (.cons rfl .nil) rfl R0 rD (by
    rw [hF]
    exact fun mp' H' v x1 R1 r1 => by simpa only [Rv] using r1)) fun r s' h => ?_
  cases r with
  | error e =>
    obtain ⟨_, _, _, _, _, _, _, _, _, _, _, _, z⟩ := h
    exact z.elim
  | ok fl =>
    cases fl with
    | next => exact False.elim h
    | brk => exact False.elim h
    | cont => exact False.elim h
    | ret u =>
      obtain ⟨v, H', os, bare, un, hok', r', q⟩ := h
      have q' : v = .bl true := q
      subst q'
      obtain rfl : u = Value.bool true := r'
      refine ⟨rfl, OldK.of_keep fun b o e => ?_, os, bare⟩
      cases q : H b with
      | none => exact un.keep b o e q (fun z => absurd (show b ∈ ([] : List Addr) from z) (by simp)) (by simp)
      | some u =>
        rcases hO b with z | ⟨ob, xs, z⟩
        · rw [q] at z; cases z
        · obtain ⟨e1, _⟩ := hok b _ z
          obtain ⟨e2, _⟩ := hok' b _ (un.frzs b ob _ z)
          rw [e] at e1; cases e1
          exact e2
theorem law_callV (KX : K.In s₁.heap) (hns : s₁.heap.Ns mainGlobals mg) (hb : s₁.heap.Ns builtinsNs mb) (hbb : ∀ x : Str, x ≠ "__name__" → mb x = bootBuiltins x) (hlim : s₁.heap.NoLimit) (hg : s₁.gens = #[])
    (ha : s₁.heap.get? a = some { cls := .type "list", data := .seq vs.toArray }) (hi : IntsAre vs ns) (hl : ns.length ≤ sizeLine) (hr : Room k callerA)
    (FN : ∀ base : Heap, K.In base → base.Ns mainGlobals mg → FnS P w K mg base k fa fd [x] F) (hbind : ∀ (s : Shared) (u : Value), BindsTo s fd ⟨[u], []⟩ [(x, u)])
    (hF : ∃ st, F [.fz (ns.map .int)] [] = .ok (.bl true) st) :
    codeAny (model P w) callerA (.call (.ref fa) ⟨[.ref a], []⟩) (fun r s' => r = .ok (.ret (.bool true)) ∧ OldK s₁.heap s'.heap ∧ s'.os = s₁.os ∧ AllBare s'.gens) s₁ := by
  have rv := vals_ints hi
  cases hk : K.lookup a with
  | some o =>
    have e := KX a o hk
    rw [ha] at e
    cases e
    exact end_core KX hns hb hbb hlim hg ha hr FN hbind hF (fun _ => none) (fun _ => .inl rfl) (.inr ⟨_, vs.toArray, _, hk, rfl, rfl, rfl, by rw [List.size_toArray, hi.length]; exact hl, by simpa using rv⟩) (fun b u z => by cases (show (none : Option HO) = some u from z)) (fun b z => absurd rfl z) fun z => absurd rfl z
  | none =>
    let o : HO := .frz { cls := .type "list", data := .seq vs.toArray } (.lst (ns.map V.int))
    have eq : ∀ {b : Addr} {u : HO}, (if b = a then some o else none) = some u → b = a ∧ u = o := fun {b u} z => by
      split at z
      · exact ⟨by assumption, by cases z; rfl⟩
      · cases z
    refine end_core KX hns hb hbb hlim hg ha hr FN hbind hF (fun b => if b = a then some o else none) (fun b => ?_) (.inl (.inr ⟨{ cls := .type "list", data := .seq vs.toArray }, if_pos rfl⟩)) (fun b u z => ?_) (fun b z => ?_) fun _ => hk
    · by_cases hb : b = a
      · exact .inr ⟨_, _, if_pos hb⟩
      · exact .inl (if_neg hb)
    · obtain ⟨rfl, rfl⟩ := eq z
      exact ⟨ha, by rw [List.length_map]; exact hl, vs, _, rv, ha⟩
    · by_cases hb : b = a
      · exact hb
      · exact absurd (if_neg hb) z
end
/-- a law: what its def says at every script -/
theorem walk_ofV {l : PySem.W.OpenLaw} {n k : Nat} {q : Program} {loose : List Str} {XP : (Str → Option Value) → Heap → Prop} {YP : World → Heap → Prop} {d : DefRec} {x : Str}
    (hn : l.most = some n) (hn2 : n ≤ sizeLine) (hdf : d.params.defaults = []) (hr : Room k callerA)
    (hF : ∀ (w : World) (mg : Str → Option Value) (fa : Addr) (h : Heap), YP w h → h.Ns mainGlobals mg → mg d.name = some (.ref fa) →
      ∃ (K : PySem.W.Frag) (fd : FuncData) (F : FL), K.In h ∧ (∀ (s : Shared) (u : Value), BindsTo s fd ⟨[u], []⟩ [(x, u)]) ∧ (∀ ns : List Int, ns.length ≤ n → ∃ st, F [.fz (ns.map .int)] [] = .ok (.bl true) st) ∧
        ∀ base : Heap, K.In base → base.Ns mainGlobals mg → FnS l.prog w K mg base k fa fd [x] F) :
    PySem.W.WalkO q loose XP YP l.row.toRowW d [] (fun f vs => PySem.call f vs) := by
  refine Att.attach_call hn hdf fun w s₀ s₁ mg mb fa o pm cd doc a vs ns G Y ho hd hcd hmg hobj hints hlen hg => ?_
  obtain ⟨K, fd, F, KX, hb, hL, hFN⟩ := hF w mg fa _ Y G.T.g hmg
  exact law_callV KX G.T.g G.T.b G.T.builtins G.T.nolimit hg hobj hints (Nat.le_trans hlen hn2) hr hFN hb (hL ns hlen)

/-! ### the head's facts -/
/-- the Hook: facts of He, defs, and a test of one's own -/
def hookV (n : Nat) (fa : List He.Fa) (fn : List He.DefD) (ok : PySem.W.Frag → Bool) : PySem.W.Hook where
  α := He.AlD × Bool
  obs := fun s => (He.obsDG n fa fn s.heap.get?, ok (He.frG s.heap.get? (He.asD s.heap.get? n)))
  val := fun _ => (He.valD fn, true)
  says := fun _ h => ∃ K : PySem.W.Frag, K.In h ∧ He.SaysD fa fn K ∧ ok K = true
  of := fun _ s e => ⟨He.frG s.heap.get? (He.asD s.heap.get? n), He.frG_in, (Prod.mk.inj e).1, (Prod.mk.inj e).2⟩
  keeps := fun _ _ _ ⟨K, hK, c⟩ k => ⟨K, PySem.W.Frag.In.keeps hK k, c⟩
def obV (n : Nat) (fa : List He.Fa) (fn : List He.DefD) (ok : PySem.W.Frag → Bool) (s : PySem.W.SharedT) : He.AlD × Bool :=
  (He.obsDG n fa fn (HandSHeadRun.getT s), ok (He.frG (HandSHeadRun.getT s) (He.asD (HandSHeadRun.getT s) n)))
theorem obV_eq {n : Nat} {fa : List He.Fa} {fn : List He.DefD} {ok : PySem.W.Frag → Bool} (s : PySem.W.SharedT) : obV n fa fn ok s = (hookV n fa fn ok).obs s.abs := by
  have e : HandSHeadRun.getT s = s.abs.heap.get? := funext (HandSHeadRun.getT_eq s)
  unfold obV
  rw [e] <;> rfl
end VI
set_option maxHeartbeats 4000000
namespace VI
open PySem PySem.Spec PyProof.Rows L2

/-! ### short names for the printed terms -/
def visB (sc : Scope) (x : Str) : Bool := match sc.names.lookup x with
  | some .local => true
  | some .cell => true
  | some .free => true
  | _ => false
theorem vis_of {sc : Scope} {x : Str} (h : visB sc x = true) : Vis sc x := by
  unfold visB at h
  split at h
  · exact .inl (by assumption)
  · exact .inr (.inl (by assumption))
  · exact .inr (.inr (by assumption))
  · cases h
def locB (sc : Scope) (x : Str) : Bool := match sc.names.lookup x with
  | some .local => true
  | some .cell => true
  | _ => false
theorem loc_of {sc : Scope} {x : Str} (h : locB sc x = true) : Loc sc x := by
  unfold locB at h
  split at h
  · exact .inl (by assumption)
  · exact .inr (by assumption)
  · cases h
section
variable {X : Cx} {a b d e : Expr} {ma mb md me : ME} {ta tb : MB} {pos : Pos} {x : Str} {k : Nat}
theorem xv (i : Nat) (hN : X.N[i]? = some x := by rfl) (hv : visB X.env.scope x = true := by rfl) (hd : (x == ("__debug__" : Str)) = false := by decide) (hcd : (x == ("__classdict__" : Str)) = false := by decide) : SE X (.Name x pos) (mVar i) := se_var hN (vis_of hv) hd hcd
theorem xg (i : Nat) (c : XC k X) (hi : X.N[i]? = some x := by rfl) (hx : locB X.env.scope x = true := by rfl) (hf : X.fn x = true ∨ X.env.scope.names.lookup x = some .local := by first | exact .inl rfl | exact .inr rfl) : SG X (.Name x pos) [i] (gNm i) := sg_name c.nd hi (loc_of hx) hf
theorem xset (i : Nat) (c : XC k X) {pos' : Pos} (he : SE X e me) (hi : X.N[i]? = some x := by rfl) (hx : locB X.env.scope x = true := by rfl) (hs : swapsWith e (some (.Name x pos')) pos.line X.env = pure false := by rfl)
    (hf : X.fn x = true ∨ X.env.scope.names.lookup x = some .local := by first | exact .inl rfl | exact .inr rfl) : SS X (.Assign [.Name x pos'] e pos) (sSet i me) := s_set c.nd hi (loc_of hx) he hs hf
theorem x_add (ha : SE X a ma) (hb : SE X b mb) : SE X (.BinOp a .Add b pos) (m2 addD ma mb) := se_op op_add' srv_add ha hb
theorem x_sub (ha : SE X a ma) (hb : SE X b mb) : SE X (.BinOp a .Sub b pos) (m2 subD ma mb) := se_op op_sub srv_sub ha hb
theorem x_mul {mk : List D → Mem → Res D} (hk : MkOk mk) (ha : SE X a ma) (hb : SE X b mb) : SE X (.BinOp a .Mult b pos) (m2 (mulD mk) ma mb) := se_op op_mul' (srv_mul hk) ha hb
theorem x_fdiv (ha : SE X a ma) (hb : SE X b mb) : SE X (.BinOp a .FloorDiv b pos) (m2 fdivD ma mb) := se_op op_fdiv srv_fdiv ha hb
theorem x_mod (ha : SE X a ma) (hb : SE X b mb) : SE X (.BinOp a .Mod b pos) (m2 modD ma mb) := se_op op_mod srv_mod ha hb
theorem x_pow (ha : SE X a ma) (hb : SE X b mb) : SE X (.BinOp a .Pow b pos) (m2 powD ma mb) := se_op op_pow srv_pow ha hb
theorem x_neg (ha : SE X a ma) : SE X (.UnaryOp .USub a pos) (m1 negD ma) := se_un un_neg srv_neg ha
theorem oEq (c : XC k X) : OpR X (compareOp .Eq) (rEq' X.K) := OpR.or op_eq (op_eqD (by have := c.xr.room.un; omega))
theorem oNe (c : XC k X) : OpR X (compareOp .NotEq) (rNe' X.K) := OpR.or op_ne (op_neD (by have := c.xr.room.un; omega))
theorem x_eq (c : XC k X) (ha : SE X a ma) (hb : SE X b mb) : SE X (.Compare a [.Eq] [b] pos) (m2 eqD ma mb) := se_cmp (oEq c) srv_eq ha hb (nomark _)
theorem x_ne (c : XC k X) (ha : SE X a ma) (hb : SE X b mb) : SE X (.Compare a [.NotEq] [b] pos) (m2 neD ma mb) := se_cmp (oNe c) srv_ne ha hb (nomark _)
theorem x_lt (c : XC k X) (ha : SE X a ma) (hb : SE X b mb) : SE X (.Compare a [.Lt] [b] pos) (m2 ltD ma mb) := se_cmp (op_lt' c.xr) srv_lt ha hb (nomark _)
theorem x_le (ha : SE X a ma) (hb : SE X b mb) : SE X (.Compare a [.LtE] [b] pos) (m2 leD ma mb) := se_cmp op_le srv_le ha hb (nomark _)
theorem x_gt (ha : SE X a ma) (hb : SE X b mb) : SE X (.Compare a [.Gt] [b] pos) (m2 gtD ma mb) := se_cmp op_gt srv_gt ha hb (nomark _)
theorem x_ge (ha : SE X a ma) (hb : SE X b mb) : SE X (.Compare a [.GtE] [b] pos) (m2 geD ma mb) := se_cmp op_ge srv_ge ha hb (nomark _)
theorem x_in (c : XC (k + 1) X) (ha : SE X a ma) (hb : SE X b mb) (hm : behindInMarks .In b = false := by rfl) : SE X (.Compare a [.In] [b] pos) (m2 inD ma mb) := se_cmp (op_mem c.xr) srv_in ha hb hm
theorem x_notin (c : XC (k + 1) X) (ha : SE X a ma) (hb : SE X b mb) (hm : behindInMarks .NotIn b = false := by rfl) : SE X (.Compare a [.NotIn] [b] pos) (m2 notinD ma mb) := se_cmp (op_notmem c.xr) srv_notin ha hb hm
theorem x_is (ha : SE X a ma) (hb : SE X b mb) : SE X (.Compare a [.Is] [b] pos) (m2 isD ma mb) := se_cmp op_is' srv_is ha hb (nomark _)
theorem x_isnot (ha : SE X a ma) (hb : SE X b mb) : SE X (.Compare a [.IsNot] [b] pos) (m2 isnotD ma mb) := se_cmp op_isnot' srv_isnot ha hb (nomark _)
/-- .. as tests -/
theorem t_eq (c : XC k X) (ha : SE X a ma) (hb : SE X b mb) : ST X (.Compare a [.Eq] [b] pos) (asB (m2 eqD ma mb)) := st_cmp (oEq c) srv_eq ha hb (nomark _)
theorem t_ne (c : XC k X) (ha : SE X a ma) (hb : SE X b mb) : ST X (.Compare a [.NotEq] [b] pos) (asB (m2 neD ma mb)) := st_cmp (oNe c) srv_ne ha hb (nomark _)
theorem t_lt (c : XC k X) (ha : SE X a ma) (hb : SE X b mb) : ST X (.Compare a [.Lt] [b] pos) (asB (m2 ltD ma mb)) := st_cmp (op_lt' c.xr) srv_lt ha hb (nomark _)
theorem t_le (ha : SE X a ma) (hb : SE X b mb) : ST X (.Compare a [.LtE] [b] pos) (asB (m2 leD ma mb)) := st_cmp op_le srv_le ha hb (nomark _)
theorem t_gt (ha : SE X a ma) (hb : SE X b mb) : ST X (.Compare a [.Gt] [b] pos) (asB (m2 gtD ma mb)) := st_cmp op_gt srv_gt ha hb (nomark _)
theorem t_ge (ha : SE X a ma) (hb : SE X b mb) : ST X (.Compare a [.GtE] [b] pos) (asB (m2 geD ma mb)) := st_cmp op_ge srv_ge ha hb (nomark _)
theorem t_in (c : XC (k + 1) X) (ha : SE X a ma) (hb : SE X b mb) (hm : behindInMarks .In b = false := by rfl) : ST X (.Compare a [.In] [b] pos) (asB (m2 inD ma mb)) := st_cmp (op_mem c.xr) srv_in ha hb hm
theorem t_notin (c : XC (k + 1) X) (ha : SE X a ma) (hb : SE X b mb) (hm : behindInMarks .NotIn b = false := by rfl) : ST X (.Compare a [.NotIn] [b] pos) (asB (m2 notinD ma mb)) := st_cmp (op_notmem c.xr) srv_notin ha hb hm
theorem t_is (ha : SE X a ma) (hb : SE X b mb) : ST X (.Compare a [.Is] [b] pos) (asB (m2 isD ma mb)) := st_cmp op_is' srv_is ha hb (nomark _)
theorem t_isnot (ha : SE X a ma) (hb : SE X b mb) : ST X (.Compare a [.IsNot] [b] pos) (asB (m2 isnotD ma mb)) := st_cmp op_isnot' srv_isnot ha hb (nomark _)
theorem t_any (ha : SE X a ma) (he : ∀ whole, isTrue a X.env whole = (do let v ← whole; standAt a.pos; holding [v] (truthy v)) := by intro _; rfl) : ST X a (asT ma) := st_truth ha he
/-- a op b op' c -/
theorem x_chain {op op' : CmpOp} {r r' : R2} {f g : F2} (ho : OpR X (compareOp op) r) (ho' : OpR X (compareOp op') r') (hf : Srv2 (gm X) f r) (hg : Srv2 (gm X) g r') (ha : SE X a ma) (hb : SE X b mb) (hd : SE X d md) (hm : lastMarks [op, op'] [b, d] = false := by with_unfolding_all rfl) :
    SE X (.Compare a [op, op'] [b, d] pos) (mCh f g ma mb md) := ⟨fun W tk => PE.imp (pe_chain ho ho' (ha.run W tk) (hb.run W tk) (hd.run W tk) hm) fun σ H Q h => tChain_of (op := op) (op' := op') hf hg h⟩
theorem t_chain {op op' : CmpOp} {r r' : R2} {f g : F2} (ho : OpR X (compareOp op) r) (ho' : OpR X (compareOp op') r') (hf : Srv2 (gm X) f r) (hg : Srv2 (gm X) g r') (ha : SE X a ma) (hb : SE X b mb) (hd : SE X d md) (hm : lastMarks [op, op'] [b, d] = false := by with_unfolding_all rfl) :
    ST X (.Compare a [op, op'] [b, d] pos) (asB (mCh f g ma mb md)) := ⟨fun W tk => PT.imp (pt_chain ho ho' (ha.run W tk) (hb.run W tk) (hd.run W tk) hm) fun σ H Q h => tChain_of (op := op) (op' := op') hf hg (tTest_of h)⟩
/-- a[b] -/
theorem x_ix (c : XC k X) (ha : SE X a ma) (hb : SE X b mb) (hs : PlainIx b := by intro _ _; rfl) : SE X (.Subscript a b pos) (m2 ixD ma mb) := se_ix (ix_all c.xr) srv_ix ha hb hs
/-! ### .. calls of built-ins -/
variable {p : Pos}
theorem x_len (hm : X.mg "len" = none) (ha : SE X a ma) (hg : Gl X "len" := by rfl) (hs : starEach [a] X.env = (false, eval a X.env) :: starEach [] X.env := by rfl) : SE X (.Call (.Name "len" p) [a] [] pos) (mF (f1 lenD) [ma]) :=
  se_callB call_len' srv_len PySem.boot_len hg hm (sa_cons ha sa_nil hs) (by decide) (by decide) hs (by rfl)
theorem x_all (c : XC k X) (hm : X.mg "all" = none) (ha : SE X a ma) (hg : Gl X "all" := by rfl) (hs : starEach [a] X.env = (false, eval a X.env) :: starEach [] X.env := by rfl) : SE X (.Call (.Name "all" p) [a] [] pos) (mF (f1 allD) [ma]) :=
  se_callB (cr_all c.calm) srv_all (by first | exact PySem.boot_all | rfl) hg hm (sa_cons ha sa_nil hs) (by decide) (by decide) hs (by rfl)
theorem x_any (c : XC k X) (hm : X.mg "any" = none) (ha : SE X a ma) (hg : Gl X "any" := by rfl) (hs : starEach [a] X.env = (false, eval a X.env) :: starEach [] X.env := by rfl) : SE X (.Call (.Name "any" p) [a] [] pos) (mF (f1 anyD) [ma]) :=
  se_callB (cr_any c.calm) srv_any (by first | exact PySem.boot_any | rfl) hg hm (sa_cons ha sa_nil hs) (by decide) (by decide) hs (by rfl)
theorem x_repr (c : XC k X) (hm : X.mg "repr" = none) (ha : SE X a ma) (hg : Gl X "repr" := by rfl) (hs : starEach [a] X.env = (false, eval a X.env) :: starEach [] X.env := by rfl) : SE X (.Call (.Name "repr" p) [a] [] pos) (mF (f1 reprD) [ma]) :=
  se_callB (call_repr c.xr) srv_repr (by first | exact PyProof.Rows.boot_repr | exact PyProof.Rows.Boot.repr | rfl) hg hm (sa_cons ha sa_nil hs) (by decide) (by decide) hs (by rfl)
theorem x_int (hm : X.mg "int" = none) (ha : SE X a ma) (hg : Gl X "int" := by rfl) (hs : starEach [a] X.env = (false, eval a X.env) :: starEach [] X.env := by rfl) : SE X (.Call (.Name "int" p) [a] [] pos) (mF (f1 intD) [ma]) :=
  se_callTy call_int' srv_int (by first | exact PyProof.Rows.boot_int | rfl) hg hm (sa_cons ha sa_nil hs) (by decide) (by decide) hs (by rfl)
theorem x_list {mk : List D → Mem → Res D} (hk : MkOk mk) (hm : X.mg "list" = none) (ha : SE X a ma) (hg : Gl X "list" := by rfl) (hs : starEach [a] X.env = (false, eval a X.env) :: starEach [] X.env := by rfl) : SE X (.Call (.Name "list" p) [a] [] pos) (mF (f1 (listD mk)) [ma]) :=
  se_callTy call_list_of (srv_list hk) (by first | exact PyProof.Rows.boot_list | rfl) hg hm (sa_cons ha sa_nil hs) (by decide) (by decide) hs (by rfl)
theorem x_tuple (hm : X.mg "tuple" = none) (ha : SE X a ma) (hg : Gl X "tuple" := by rfl) (hs : starEach [a] X.env = (false, eval a X.env) :: starEach [] X.env := by rfl) : SE X (.Call (.Name "tuple" p) [a] [] pos) (mF (f1 tupleD) [ma]) :=
  se_callTy call_tuple_of srv_tuple (by first | exact PyProof.Rows.boot_tuple | rfl) hg hm (sa_cons ha sa_nil hs) (by decide) (by decide) hs (by rfl)
theorem x_append (ho : SE X a ma) (ha : SE X b mb) {apos cpos : Pos} (hbase : attributeBase a "append" X.env (eval a X.env) = eval a X.env := by rfl)
    (hfew : ((backTo cpos (starEach [b] X.env)).all (fun x => !x.1) && (backToKw cpos (keywordEach [] X.env)).all (fun x => x.1.isSome)
      && decide ([b].length + ([] : List Keyword).length + (if ([] : List Keyword).isEmpty then 0 else 1) < 30)) = true := by rfl)
    (hline : (apos.endLine == cpos.line) = true := by rfl) (hs : starEach [b] X.env = (false, eval b X.env) :: starEach [] X.env := by rfl) (hplain : (backTo cpos (starEach [] X.env)).any (·.1) = false := by rfl) :
    SE X (.Call (.Attribute a "append" apos) [b] [] cpos) (mBM "list" appendD ma [mb]) :=
  se_bm PySem.F.plainAttrs_list PySem.F.slot_list_append PySem.F.type_list_append mt_append srv_append ho (sa_cons ha sa_nil hs) hbase hfew hline hs hplain
end
end VI
set_option maxHeartbeats 4000000
namespace VI
open PySem PySem.Spec PyProof.Rows L2

/-! ### names of the module -/
section
variable {X : Cx} {a b e : Expr} {ma mb me : ME} {pos : Pos} {x : Str} {k : Nat}
theorem se_constI {i : Int} (h : ∃ t, X.mg x = some (.int i t)) (hg : Gl X x) (hdb : (x == ("__debug__" : Str)) = false := by decide) : SE X (.Name x pos) (mC (.int i)) := by
  obtain ⟨t, h⟩ := h
  exact se_glob hg h (v := .int i) ⟨t, rfl⟩ (fun _ _ => by simp [Rv]) hdb
theorem se_constS {i : Str} (h : ∃ t, X.mg x = some (.str i t)) (hg : Gl X x) (hdb : (x == ("__debug__" : Str)) = false := by decide) : SE X (.Name x pos) (mC (.str i)) := by
  obtain ⟨t, h⟩ := h
  exact se_glob hg h (v := .str i) ⟨t, rfl⟩ (fun _ _ => by simp [Rv]) hdb
theorem se_glD {st : Stmt} (h : DefT X.K X.mg x st) (hg : Gl X x) (hdb : (x == ("__debug__" : Str)) = false := by decide) : SE X (.Name x pos) (mC (.gl x)) := by
  obtain ⟨f, fd, h, _⟩ := h
  exact se_gl hg h hdb
theorem Boot_int : bootBuiltins "int" = some (.type "int") := PyProof.Rows.boot_int
theorem Boot_bool : bootBuiltins "bool" = some (.type "bool") := PyProof.Rows.boot_bool
theorem Boot_str : bootBuiltins "str" = some (.type "str") := PyProof.Rows.boot_str
theorem Boot_list : bootBuiltins "list" = some (.type "list") := PyProof.Rows.boot_list
theorem Boot_tuple : bootBuiltins "tuple" = some (.type "tuple") := by decide +kernel
theorem Boot_dict : bootBuiltins "dict" = some (.type "dict") := by decide +kernel
theorem Boot_ValueError : bootBuiltins "ValueError" = some (.type "ValueError") := by decide +kernel
theorem xpar (i j : Nat) (c : XC k X) {y : Str} {px py pt : Pos} {kt k2 : Nat} {pt2 : Pos} (ha : SE X a ma) (hb : SE X b mb) (hi : X.N[i]? = some x := by rfl) (hj : X.N[j]? = some y := by rfl) (hij : i ≠ j := by decide)
    (hx : X.env.scope.names.lookup x = some .local := by rfl) (hy : X.env.scope.names.lookup y = some .local := by rfl)
    (hw : swappedStores [.Tuple [.Name x px, .Name y py] kt pt] (.Tuple [a, b] k2 pt2) X.env = pure (some [x, y]) := by rfl)
    (hs : swapsWithSole [.Tuple [.Name x px, .Name y py] kt pt] (.Tuple [a, b] k2 pt2) pos.line X.env = pure false := by rfl)
    (h1 : starEach [a, b] X.env = (false, eval a X.env) :: starEach [b] X.env := by rfl) (h2 : starEach [b] X.env = (false, eval b X.env) :: starEach [] X.env := by rfl) :
    SS X (.Assign [.Tuple [.Name x px, .Name y py] kt pt] (.Tuple [a, b] k2 pt2) pos) (sPar i j ma mb) := s_par c.calm c.nd hi hj hij hx hy ha hb hw hs h1 h2
end

section
variable {X : Cx} {elt tg iter : Expr} {ifs : List Expr} {scope : Scope} {own : List (Str × Nat)} {pos : Pos} {mi : ML} {g : MG} {t : MB} {m : ME} {us : List Nat} {k : Nat} {fin : Mem → Mem → Res D}
theorem s_setLcX (i : Nat) {y : Str} {py spos : Pos} (hf : FinOk fin) (c : XC k X) (hi : SI X tg iter mi) (ok : blkC X.N X.env.scope scope own = true) (hus : ∀ j, j ∈ us → j ∈ own.map (·.2))
    (hg : ∀ (s : Shared) (H : Hp) (C : Addr) (cl : List (Str × Addr)) (fp : List Addr), XC k (X.blk s H scope (compEnvC scope cl C X.env) fp) → SG (X.blk s H scope (compEnvC scope cl C X.env) fp) tg us g)
    (ht : ∀ (s : Shared) (H : Hp) (C : Addr) (cl : List (Str × Addr)) (fp : List Addr), XC k (X.blk s H scope (compEnvC scope cl C X.env) fp) → STs (X.blk s H scope (compEnvC scope cl C X.env) fp) ifs t)
    (he : ∀ (s : Shared) (H : Hp) (C : Addr) (cl : List (Str × Addr)) (fp : List Addr), XC k (X.blk s H scope (compEnvC scope cl C X.env) fp) → SE (X.blk s H scope (compEnvC scope cl C X.env) fp) elt m)
    (hy : X.N[i]? = some y := by rfl) (hyl : X.env.scope.names.lookup y = some .local := by rfl) (hsw : swapsWith (.ListComp elt [⟨tg, iter, ifs, 0⟩] scope pos) (some (.Name y py)) spos.line X.env = pure true := by rfl)
    (hs : ∀ x, foldedSetIterable iter X.env x = pure x := by intro _; rfl) : SS X (.Assign [.Name y py] (.ListComp elt [⟨tg, iter, ifs, 0⟩] scope pos) spos) (sSet i (mLC fin mi g t m (own.map (·.2)))) :=
  s_setLc hf c hy hyl hsw hi ok hus hg ht he hs
end

/-! ### facts of classes, by booleans -/
def nsB (K : PySem.W.Frag) (x : Str) : Bool := dB (PySem.W.nsIn K mainGlobals x) (some (some (.ref (He.ga K x))))
def oexB (K : PySem.W.Frag) (C : Addr) : Bool := match K.lookup C with
  | some ⟨.type "type", _, .cls cd, sl⟩ => (match cd.mro, sl.toList with
    | .ref C' :: bm, [_, _, _, _, some (.builtin n), _] => C' == C && (n == "ValueError.__new__" && (!cd.hasDel && (cd.hasDict && PySem.HandSPX.refsVE bm)))
    | _, _ => false)
  | _ => false
theorem oexB_ok {K : PySem.W.Frag} {C : Addr} (q : oexB K C = true) : ∃ nm q N bs bm sn sub ab col dd k0 k1 k2 k3 k5, K.lookup C = some (excClassObj nm q C N bs bm true sn sub ab col dd k0 k1 k2 k3 k5 "ValueError.__new__") ∧ PySem.HandSPX.refsVE bm = true := by
  unfold oexB at q
  split at q
  · rename_i dd cd sl ho
    split at q
    · rename_i C' bm k0 k1 k2 k3 n k5 hm hs
      simp only [Bool.and_eq_true, beq_iff_eq, Bool.not_eq_true'] at q
      obtain ⟨rfl, rfl, hdel, hdict, hr⟩ := q
      obtain ⟨nm, bs, mro, ns, qn, hd, sn, sub, ab, col, del⟩ := cd
      dsimp only at hm hdel hdict
      subst hm hdel hdict
      obtain ⟨l⟩ := sl
      simp only at hs
      subst hs
      exact ⟨nm, qn, ns, bs, bm, sn, sub, ab, col, dd, k0, k1, k2, k3, k5, ho, hr⟩
    · cases q
  · cases q
/-- a class of exceptions with its own __init__, that sets fs -/
def ClsT (K : PySem.W.Frag) (mg : Str → Option Value) (c qual : Str) (st : Stmt) (fs : List Str) : Prop :=
  ∃ C fI fd, mg c = some (.ref C) ∧ OexC K C ∧ PySem.W.findIn K (.ref C) "__init__" = some (some (.ref fI)) ∧ PySem.W.typeIn K (.ref fI) = some (.type "function") ∧ Fun K "__init__" qual st fI fd ∧ ∀ f ∈ fs, PySem.W.findIn K (.ref C) f = some none
def clsB (K : PySem.W.Frag) (c : Str) (fs : List Str) : Bool := nsB K c && (oexB K (He.ga K c) && (dB (PySem.W.findIn K (.ref (He.ga K c)) "__setattr__") (some (some (.builtin "object.__setattr__"))) && (dB (PySem.W.subIn K (.ref (He.ga K c)) (.type "BaseException")) (some true) &&
  (dB (PySem.W.typeIn K (.ref (He.ga K c))) (some (.type "type")) && (PySem.W.keepIn K (.ref (He.ga K c)) && (dB (PySem.W.findIn K (.ref (He.ga K c)) "__init__") (some (some (.ref (He.ma K (He.ga K c) "__init__")))) &&
  (dB (PySem.W.typeIn K (.ref (He.ma K (He.ga K c) "__init__"))) (some (.type "function")) && fs.all fun f => dB (PySem.W.findIn K (.ref (He.ga K c)) f) (some none))))))))
section
variable {K : PySem.W.Frag} {h : Heap} {mg : Str → Option Value}
theorem nsB_ok (X : K.In h) (G : h.Ns mainGlobals mg) {x : Str} (c : nsB K x = true) : mg x = some (.ref (He.ga K x)) := PySem.W.mg_of X G (dB_ok c)
theorem fun_of_D {x qual : Str} {st : Stmt} {f : Addr} {fd : FuncData} (F : FunD K x qual (defArgs st) (defBody st) (defScope st) [] [] f fd) : Fun K x qual st f fd := by
  obtain ⟨oc, od, dV, kV, doc, pm, an, cdv, ct, osl, rfl, lk, hcd, hd, hk⟩ := F.ex
  rcases hd with ⟨_, rfl⟩ | ⟨n, _⟩
  · exact ⟨⟨oc, od, kV, doc, pm, an, cdv, ct, osl, rfl, lk, hcd⟩, F.kp⟩
  · exact absurd rfl n
theorem clsB_ok {c qual : Str} {st : Stmt} {fs : List Str} (X : K.In h) (G : h.Ns mainGlobals mg) (q : clsB K c fs = true)
    (F : ∃ fd, FunD K "__init__" qual (defArgs st) (defBody st) (defScope st) [] [] (He.ma K (He.ga K c) "__init__") fd) : ClsT K mg c qual st fs := by
  obtain ⟨fd, F⟩ := F
  unfold clsB at q
  simp only [Bool.and_eq_true, List.all_eq_true] at q
  obtain ⟨h0, h1, h2, h3, h4, h5, h6, h7, h8⟩ := q
  exact ⟨_, _, fd, nsB_ok X G h0, ⟨oexB_ok h1, dB_ok h2, dB_ok h3, dB_ok h4, h5⟩, dB_ok h6, dB_ok h7, fun_of_D F, fun f hf => dB_ok (h8 f hf)⟩
theorem defT_of {x : Str} {st : Stmt} (X : K.In h) (G : h.Ns mainGlobals mg) (c : (He.Fa.glo x).ok K = true) (F : ∃ fd, FunD K x x (defArgs st) (defBody st) (defScope st) [] [] (He.fAd K (x, none)) fd) : DefT K mg x st := by
  obtain ⟨fd, F⟩ := F
  exact ⟨_, fd, He.glo_ok X G c, fun_of_D F⟩
/-! #### asked for -/
def xosB (K : PySem.W.Frag) (cs : List Str) : Bool := cs.all fun c => nsB K c && xoFB K (He.ga K c)
theorem xos_at {cs : List Str} {c : Str} (X : K.In h) (G : h.Ns mainGlobals mg) (q : xosB K cs = true) (hc : c ∈ cs) : mg c = some (.ref (He.ga K c)) ∧ XoF K (He.ga K c) := by
  have z := List.all_eq_true.mp q c hc
  simp only [Bool.and_eq_true] at z
  exact ⟨nsB_ok X G z.1, xoFB_ok z.2⟩
def xoAtB (K : PySem.W.Frag) (f : Str) (cs : List Str) : Bool := cs.all fun c => dB (PySem.W.findIn K (.ref (He.ga K c)) f) (some none)
theorem xoAtB_ok {f : Str} {cs ds : List Str} (X : K.In h) (G : h.Ns mainGlobals mg) (q : xosB K ds = true) (p : xoAtB K f cs = true) (s : (cs.all fun c => decide (c ∈ ds)) = true := by decide +kernel) : XoAt ⟨K, mg⟩ f cs := fun c hc => by
  have hd : c ∈ ds := of_decide_eq_true (List.all_eq_true.mp s c hc)
  obtain ⟨h1, h2⟩ := xos_at X G q hd
  exact ⟨_, h1, h2, dB_ok (List.all_eq_true.mp p c hc)⟩
theorem mem_of_lookup {α : Type} : ∀ {l : List (Str × α)} {x : Str} {b : α}, l.lookup x = some b → (x, b) ∈ l
  | [], x, b, e => by cases e
  | (y, c) :: l, x, b, e => by
    unfold List.lookup at e
    split at e
    · rename_i hb
      cases e
      rw [beq_iff_eq] at hb
      subst hb
      exact List.mem_cons_self
    · exact List.mem_cons_of_mem _ (mem_of_lookup e)
def xoTabB (K : PySem.W.Frag) (x : Str) (tab : List (Str × Bool)) : Bool := nsB K x && tab.all fun p => dB (PySem.W.kitOne K (.ref (He.ga K p.1)) (.ref (He.ga K x))) (some p.2)
theorem xoTabB_ok {x : Str} {tab : List (Str × Bool)} {ds : List Str} (X : K.In h) (G : h.Ns mainGlobals mg) (q : xosB K ds = true) (p : xoTabB K x tab = true) (s : (tab.all fun c => decide (c.1 ∈ ds)) = true := by decide +kernel) : XoTab ⟨K, mg⟩ x tab := by
  unfold xoTabB at p
  simp only [Bool.and_eq_true] at p
  refine ⟨_, nsB_ok X G p.1, fun c b e => ?_⟩
  have m := mem_of_lookup e
  obtain ⟨h1, h2⟩ := xos_at X G q (of_decide_eq_true (List.all_eq_true.mp s _ m))
  exact ⟨_, h1, h2, dB_ok (List.all_eq_true.mp p.2 _ m)⟩
def xoTabTB (K : PySem.W.Frag) (T : String) (tab : List (Str × Bool)) : Bool := tab.all fun p => dB (PySem.W.kitOne K (.ref (He.ga K p.1)) (.type T)) (some p.2)
theorem xoTabTB_ok {T : String} {tab : List (Str × Bool)} {ds : List Str} (X : K.In h) (G : h.Ns mainGlobals mg) (q : xosB K ds = true) (p : xoTabTB K T tab = true) (s : (tab.all fun c => decide (c.1 ∈ ds)) = true := by decide +kernel) : XoTabT ⟨K, mg⟩ T tab := by
  refine fun c b e => ?_
  have m := mem_of_lookup e
  obtain ⟨h1, h2⟩ := xos_at X G q (of_decide_eq_true (List.all_eq_true.mp s _ m))
  exact ⟨_, h1, h2, dB_ok (List.all_eq_true.mp p _ m)⟩
end

/-! ### __init__ -/
section
variable {P : Program} {w : World} {K : PySem.W.Frag} {mg : Str → Option Value} {base : Heap} {c qual f g : Str} {st : Stmt}
theorem mkS_1 {N : List Str} (T : ClsT K mg c qual st [f]) (hN : N = [("self" : Str), f]) (S : FnScope N [("self" : Str), f] (defScope st))
    (hb : ∀ (kV doc pm : Value) (an : Option Addr) (cdv ct : Value) (us : List Value), us.length = [("self" : Str), f].length → bindArgs (PySem.W.fnOf "__init__" qual (defArgs st) (defBody st) (defScope st) .none kV doc pm an cdv ct) ⟨us, []⟩ = pure ([("self" : Str), f].zip us))
    (body : ∀ (fI : Addr) (cdv : Value) (A : Around) (outer : List PySem.Env) (s : Shared) (H : Hp) (E : XK), PSs (cxOf CX0 P w K mg base N qual (defScope st) fI cdv A outer s H E).nox (defBody st) (tOst K f (tVar 0) (tVar 1))) : MkS P w K mg base 1 c [f] := by
  obtain ⟨C, fI, fd, hm, O, iC, tI, F, no⟩ := T
  subst hN
  refine ⟨C, fI, fd, hm, O, iC, tI, F.binds hb, F.ok S (fun vs H Q E h => ?_) (fun cdv A outer s H vs Q E hr h => ⟨_, body fI cdv A outer s H E, ?_⟩)⟩
  · obtain ⟨a, ws, rfl, hl, _⟩ := h
    simp [hl]
  · obtain ⟨a, ws, rfl, hl, ha, q⟩ := h
    match ws, hl with
    | [y], _ =>
      refine ⟨y, rfl, .ref a, rfl, a, C, rfl, O, no f (by simp), .inl ⟨ha, fun dx nd ne => q dx _ nd ne (fun b h1 h2 => by rw [upd_ne h2, upd_ne h1]) upd_same ?_⟩⟩
      rw [upd_ne ne, upd_same]; rfl
theorem mkS_2 {N : List Str} (T : ClsT K mg c qual st [f, g]) (hN : N = [("self" : Str), f, g]) (S : FnScope N [("self" : Str), f, g] (defScope st))
    (hb : ∀ (kV doc pm : Value) (an : Option Addr) (cdv ct : Value) (us : List Value), us.length = [("self" : Str), f, g].length → bindArgs (PySem.W.fnOf "__init__" qual (defArgs st) (defBody st) (defScope st) .none kV doc pm an cdv ct) ⟨us, []⟩ = pure ([("self" : Str), f, g].zip us))
    (body : ∀ (fI : Addr) (cdv : Value) (A : Around) (outer : List PySem.Env) (s : Shared) (H : Hp) (E : XK), PSs (cxOf CX0 P w K mg base N qual (defScope st) fI cdv A outer s H E).nox (defBody st) (tSeq (tOst K f (tVar 0) (tVar 1)) (tOst K g (tVar 0) (tVar 2)))) : MkS P w K mg base 1 c [f, g] := by
  obtain ⟨C, fI, fd, hm, O, iC, tI, F, no⟩ := T
  subst hN
  refine ⟨C, fI, fd, hm, O, iC, tI, F.binds hb, F.ok S (fun vs H Q E h => ?_) (fun cdv A outer s H vs Q E hr h => ⟨_, body fI cdv A outer s H E, ?_⟩)⟩
  · obtain ⟨a, ws, rfl, hl, _⟩ := h
    simp [hl]
  · obtain ⟨a, ws, rfl, hl, ha, q⟩ := h
    match ws, hl with
    | [y, z], _ =>
      refine ⟨y, rfl, .ref a, rfl, a, C, rfl, O, no f (by simp), .inl ⟨ha, fun dx nd ne => ?_⟩⟩
      refine ⟨z, rfl, .ref a, rfl, a, C, rfl, O, no g (by simp), .inr ⟨dx, [(f, y)], upd_same, by rw [upd_ne ne, upd_same], by simp, q dx _ nd ne (fun b h1 h2 => by rw [upd_ne h1, upd_ne h2, upd_ne h1]) (by rw [upd_ne (Ne.symm ne), upd_same]) ?_⟩⟩
      rw [upd_same]; rfl
/-! ### the last step -/
theorem law_ofD {k : Nat} {x : Str} {st : Stmt} {h : Heap} {fa : Addr} {F : FL} (T : DefT K mg "law" st) (hmg : mg ("law" : Str) = some (.ref fa)) (KX : K.In h)
    (hb : ∀ (kV doc pm : Value) (an : Option Addr) (cdv ct : Value) (us : List Value), us.length = ([x] : List Str).length → bindArgs (PySem.W.fnOf "law" "law" (defArgs st) (defBody st) (defScope st) .none kV doc pm an cdv ct) ⟨us, []⟩ = pure (([x] : List Str).zip us))
    (math : ∀ ns : List Int, ns.length ≤ 63 → ∃ st, F [.fz (ns.map .int)] [] = .ok (.bl true) st) (d : ∀ base : Heap, DefS P w K mg base k "law" [x] F) :
    ∃ (K' : PySem.W.Frag) (fd : FuncData) (F' : FL), K'.In h ∧ (∀ (s : Shared) (u : Value), BindsTo s fd ⟨[u], []⟩ [(x, u)]) ∧ (∀ ns : List Int, ns.length ≤ 63 → ∃ st, F' [.fz (ns.map .int)] [] = .ok (.bl true) st) ∧
        ∀ base : Heap, K'.In base → base.Ns mainGlobals mg → FnS P w K' mg base k fa fd [x] F' := by
  obtain ⟨f, fd, hm, FN⟩ := T
  rw [hmg] at hm
  cases hm
  obtain ⟨oc, od, kV, doc, pm, an, cdv, ct, osl, rfl, lk, _⟩ := FN.ex
  refine ⟨K, _, F, KX, fun s u => .of_eq (hb kV doc pm an cdv ct [u] rfl), math, fun base _ _ => ?_⟩
  obtain ⟨f2, fd2, hm2, _, ⟨oc2, od2, osl2, lk2⟩, _, z⟩ := d base
  rw [hmg] at hm2
  cases hm2
  rw [lk] at lk2
  cases lk2
  exact z
end

/-! ### C() of a class without __init__ -/
def Cls0 (K : PySem.W.Frag) (mg : Str → Option Value) (c : Str) : Prop := ∃ C, mg c = some (.ref C) ∧ PySem.W.excIn K C He.veBase "ValueError.__new__" = true ∧ PySem.W.keepIn K (.ref C) = true
def cls0B (K : PySem.W.Frag) (c : Str) : Bool := nsB K c && (PySem.W.excIn K (He.ga K c) He.veBase "ValueError.__new__" && PySem.W.keepIn K (.ref (He.ga K c)))
theorem cls0B_ok {K : PySem.W.Frag} {h : Heap} {mg : Str → Option Value} {c : Str} (X : K.In h) (G : h.Ns mainGlobals mg) (q : cls0B K c = true) : Cls0 K mg c := by
  unfold cls0B at q
  simp only [Bool.and_eq_true] at q
  exact ⟨_, nsB_ok X G q.1, q.2.1, q.2.2⟩
def mMk0 (c : Str) : ME := fun _ st => .ok (.loc st.length) (st ++ [.xo c []])
theorem se_mk0 {X : Cx} {x : Str} {p pos : Pos} {k : Nat} (T : Cls0 X.K X.mg x) (hr : XR k X) (hg : Gl X x) (hdb : (x == ("__debug__" : Str)) = false := by decide) : SE X (.Call (.Name x p) [] [] pos) (mMk0 x) := by
  obtain ⟨C, hm, q, kC⟩ := T
  refine ⟨fun W tk => ⟨fun pins s σ H Q I h => ?_⟩⟩
  obtain ⟨mp, st, ρ, R, E, P⟩ := h
  refine wpAny_Call_Name_kw (ld_glob I hg hm ?_ hdb)
  refine PySem.W.callWith_K0 I.kIn kC ?_
  obtain ⟨bm, N, nm, qn, bs, hdct, sn, sub, ab, col, dd, k0, k1, k2, k3, k5, mN, hC, hN, hni, T⟩ := exc_obj I.kIn q
  refine wpAny_call_exc_subT PySem.F.excBase_ValueError T hC hN hni (fun h' a hmk => ?_) (by show 0 ≤ sizeLine; omega)
  have hn : H a = none := I.hok.gone hmk.new
  obtain ⟨t, ht, _, _⟩ := hmk.there
  exact ⟨.ref a, upd H a (ExO (.ref C) a), I.laidN hmk.keeps hmk.new hn (exO_ok ht ⟨rfl, rfl⟩ rfl rfl rfl (show 4 < 6 by decide)), rfl, P _ _ (.ref a) (ext_cell hn) (R.push hn ⟨C, hm, .inl ⟨rfl, upd_same⟩⟩) (by simp only [Rv]; exact ⟨a, rfl, by rw [← R.len]; simp⟩)⟩
end VI
set_option maxHeartbeats 0
namespace G00
open PySem PySem.Spec PyProof.Rows L2 VI
def topS (i : Nat) : Stmt := PySem.Challenge.pw_timesindoubt_k00_errors.main.body.getD i (.Pass ⟨0, 0, 0, 0⟩)
def clsS (i j : Nat) : Stmt := match topS i with
  | .ClassDef (body := b) .. => b.getD j (.Pass ⟨0, 0, 0, 0⟩)
  | _ => .Pass ⟨0, 0, 0, 0⟩
abbrev s__law_pen : Stmt := topS 20
abbrev s__law_draw : Stmt := topS 21
abbrev s__law_pick : Stmt := topS 22
abbrev s__law_single : Stmt := topS 24
abbrev s__law_one : Stmt := topS 23
abbrev s__law_which : Stmt := topS 25
abbrev s_law : Stmt := topS 26
abbrev s_BadText_init : Stmt := clsS 2 0
def fs_BadText : List Str := ["line", "column"]
abbrev s_BadNumber_init : Stmt := clsS 3 0
def fs_BadNumber : List Str := ["what", "number"]
abbrev s_BadName_init : Stmt := clsS 4 0
def fs_BadName : List Str := ["name"]
abbrev s_NoName_init : Stmt := clsS 5 0
def fs_NoName : List Str := ["name"]
abbrev s_TakenName_init : Stmt := clsS 6 0
def fs_TakenName : List Str := ["name"]
abbrev s_BadNetwork_init : Stmt := clsS 7 0
def fs_BadNetwork : List Str := ["network"]
abbrev s_BadPlay_init : Stmt := clsS 8 0
def fs_BadPlay : List Str := ["play"]
abbrev s_BadLengths_init : Stmt := clsS 9 0
def fs_BadLengths : List Str := ["lengths"]
abbrev s_BadRows_init : Stmt := clsS 10 0
def fs_BadRows : List Str := ["rows"]
abbrev s_BadTable_init : Stmt := clsS 11 0
def fs_BadTable : List Str := ["table"]
abbrev s_BadPaper_init : Stmt := clsS 12 0
def fs_BadPaper : List Str := ["paper"]
abbrev s_BadJob_init : Stmt := clsS 13 0
def fs_BadJob : List Str := ["job"]
abbrev s_BadAnswers_init : Stmt := clsS 14 0
def fs_BadAnswers : List Str := ["answers"]
abbrev s_BadEntry_init : Stmt := clsS 15 0
def fs_BadEntry : List Str := ["line"]
abbrev s_NotKept_init : Stmt := clsS 16 0
def fs_NotKept : List Str := ["promise", "witness"]
def at_network : List Str := ["BadNetwork"]
def at_play : List Str := ["BadPlay"]
def at_lengths : List Str := ["BadLengths"]
def at_rows : List Str := ["BadRows"]
def at_table : List Str := ["BadTable"]
def at_paper : List Str := ["BadPaper"]
def at_job : List Str := ["BadJob"]
def at_answers : List Str := ["BadAnswers"]
def at_line : List Str := ["BadText", "BadEntry"]
def at_name : List Str := ["BadName", "NoName", "TakenName"]
def at_column : List Str := ["BadText"]
def at_what : List Str := ["BadNumber"]
def at_number : List Str := ["BadNumber"]
def at_promise : List Str := ["NotKept"]
def at_witness : List Str := ["NotKept"]
def tab_BadAnswers : List (Str × Bool) := [("BadName", false), ("NoName", false), ("TakenName", false), ("BadNetwork", false), ("BadPlay", false), ("BadLengths", false), ("BadRows", false), ("BadTable", false), ("BadPaper", false), ("BadJob", false), ("BadAnswers", true), ("BadEntry", false), ("BadText", false), ("BadNumber", false), ("NotKept", false), ("NothingToUndo", false), ("NothingToRedo", false)]
def tab_BadEntry : List (Str × Bool) := [("BadName", false), ("NoName", false), ("TakenName", false), ("BadNetwork", false), ("BadPlay", false), ("BadLengths", false), ("BadRows", false), ("BadTable", false), ("BadPaper", false), ("BadJob", false), ("BadAnswers", false), ("BadEntry", true), ("BadText", false), ("BadNumber", false), ("NotKept", false), ("NothingToUndo", false), ("NothingToRedo", false)]
def tab_BadJob : List (Str × Bool) := [("BadName", false), ("NoName", false), ("TakenName", false), ("BadNetwork", false), ("BadPlay", false), ("BadLengths", false), ("BadRows", false), ("BadTable", false), ("BadPaper", false), ("BadJob", true), ("BadAnswers", false), ("BadEntry", false), ("BadText", false), ("BadNumber", false), ("NotKept", false), ("NothingToUndo", false), ("NothingToRedo", false)]
def tab_BadLengths : List (Str × Bool) := [("BadName", false), ("NoName", false), ("TakenName", false), ("BadNetwork", false), ("BadPlay", false), ("BadLengths", true), ("BadRows", false), ("BadTable", false), ("BadPaper", false), ("BadJob", false), ("BadAnswers", false), ("BadEntry", false), ("BadText", false), ("BadNumber", false), ("NotKept", false), ("NothingToUndo", false), ("NothingToRedo", false)]
def tab_BadName : List (Str × Bool) := [("BadName", true), ("NoName", false), ("TakenName", false), ("BadNetwork", false), ("BadPlay", false), ("BadLengths", false), ("BadRows", false), ("BadTable", false), ("BadPaper", false), ("BadJob", false), ("BadAnswers", false), ("BadEntry", false), ("BadText", false), ("BadNumber", false), ("NotKept", false), ("NothingToUndo", false), ("NothingToRedo", false)]
def tab_BadNetwork : List (Str × Bool) := [("BadName", false), ("NoName", false), ("TakenName", false), ("BadNetwork", true), ("BadPlay", false), ("BadLengths", false), ("BadRows", false), ("BadTable", false), ("BadPaper", false), ("BadJob", false), ("BadAnswers", false), ("BadEntry", false), ("BadText", false), ("BadNumber", false), ("NotKept", false), ("NothingToUndo", false), ("NothingToRedo", false)]
def tab_BadNumber : List (Str × Bool) := [("BadName", false), ("NoName", false), ("TakenName", false), ("BadNetwork", false), ("BadPlay", false), ("BadLengths", false), ("BadRows", false), ("BadTable", false), ("BadPaper", false), ("BadJob", false), ("BadAnswers", false), ("BadEntry", false), ("BadText", false), ("BadNumber", true), ("NotKept", false), ("NothingToUndo", false), ("NothingToRedo", false)]
def tab_BadPaper : List (Str × Bool) := [("BadName", false), ("NoName", false), ("TakenName", false), ("BadNetwork", false), ("BadPlay", false), ("BadLengths", false), ("BadRows", false), ("BadTable", false), ("BadPaper", true), ("BadJob", false), ("BadAnswers", false), ("BadEntry", false), ("BadText", false), ("BadNumber", false), ("NotKept", false), ("NothingToUndo", false), ("NothingToRedo", false)]
def tab_BadPlay : List (Str × Bool) := [("BadName", false), ("NoName", false), ("TakenName", false), ("BadNetwork", false), ("BadPlay", true), ("BadLengths", false), ("BadRows", false), ("BadTable", false), ("BadPaper", false), ("BadJob", false), ("BadAnswers", false), ("BadEntry", false), ("BadText", false), ("BadNumber", false), ("NotKept", false), ("NothingToUndo", false), ("NothingToRedo", false)]
def tab_BadRows : List (Str × Bool) := [("BadName", false), ("NoName", false), ("TakenName", false), ("BadNetwork", false), ("BadPlay", false), ("BadLengths", false), ("BadRows", true), ("BadTable", false), ("BadPaper", false), ("BadJob", false), ("BadAnswers", false), ("BadEntry", false), ("BadText", false), ("BadNumber", false), ("NotKept", false), ("NothingToUndo", false), ("NothingToRedo", false)]
def tab_BadTable : List (Str × Bool) := [("BadName", false), ("NoName", false), ("TakenName", false), ("BadNetwork", false), ("BadPlay", false), ("BadLengths", false), ("BadRows", false), ("BadTable", true), ("BadPaper", false), ("BadJob", false), ("BadAnswers", false), ("BadEntry", false), ("BadText", false), ("BadNumber", false), ("NotKept", false), ("NothingToUndo", false), ("NothingToRedo", false)]
def tab_BadText : List (Str × Bool) := [("BadName", false), ("NoName", false), ("TakenName", false), ("BadNetwork", false), ("BadPlay", false), ("BadLengths", false), ("BadRows", false), ("BadTable", false), ("BadPaper", false), ("BadJob", false), ("BadAnswers", false), ("BadEntry", false), ("BadText", true), ("BadNumber", false), ("NotKept", false), ("NothingToUndo", false), ("NothingToRedo", false)]
def tab_DoubtError : List (Str × Bool) := [("BadName", true), ("NoName", true), ("TakenName", true), ("BadNetwork", true), ("BadPlay", true), ("BadLengths", true), ("BadRows", true), ("BadTable", true), ("BadPaper", true), ("BadJob", true), ("BadAnswers", true), ("BadEntry", true), ("BadText", true), ("BadNumber", true), ("NotKept", true), ("NothingToUndo", true), ("NothingToRedo", true)]
def tab_NoName : List (Str × Bool) := [("BadName", false), ("NoName", true), ("TakenName", false), ("BadNetwork", false), ("BadPlay", false), ("BadLengths", false), ("BadRows", false), ("BadTable", false), ("BadPaper", false), ("BadJob", false), ("BadAnswers", false), ("BadEntry", false), ("BadText", false), ("BadNumber", false), ("NotKept", false), ("NothingToUndo", false), ("NothingToRedo", false)]
def tab_NotKept : List (Str × Bool) := [("BadName", false), ("NoName", false), ("TakenName", false), ("BadNetwork", false), ("BadPlay", false), ("BadLengths", false), ("BadRows", false), ("BadTable", false), ("BadPaper", false), ("BadJob", false), ("BadAnswers", false), ("BadEntry", false), ("BadText", false), ("BadNumber", false), ("NotKept", true), ("NothingToUndo", false), ("NothingToRedo", false)]
def tab_NothingToRedo : List (Str × Bool) := [("BadName", false), ("NoName", false), ("TakenName", false), ("BadNetwork", false), ("BadPlay", false), ("BadLengths", false), ("BadRows", false), ("BadTable", false), ("BadPaper", false), ("BadJob", false), ("BadAnswers", false), ("BadEntry", false), ("BadText", false), ("BadNumber", false), ("NotKept", false), ("NothingToUndo", false), ("NothingToRedo", true)]
def tab_NothingToUndo : List (Str × Bool) := [("BadName", false), ("NoName", false), ("TakenName", false), ("BadNetwork", false), ("BadPlay", false), ("BadLengths", false), ("BadRows", false), ("BadTable", false), ("BadPaper", false), ("BadJob", false), ("BadAnswers", false), ("BadEntry", false), ("BadText", false), ("BadNumber", false), ("NotKept", false), ("NothingToUndo", true), ("NothingToRedo", false)]
def tab_TakenName : List (Str × Bool) := [("BadName", false), ("NoName", false), ("TakenName", true), ("BadNetwork", false), ("BadPlay", false), ("BadLengths", false), ("BadRows", false), ("BadTable", false), ("BadPaper", false), ("BadJob", false), ("BadAnswers", false), ("BadEntry", false), ("BadText", false), ("BadNumber", false), ("NotKept", false), ("NothingToUndo", false), ("NothingToRedo", false)]
def tab_ValueError : List (Str × Bool) := [("BadName", true), ("NoName", true), ("TakenName", true), ("BadNetwork", true), ("BadPlay", true), ("BadLengths", true), ("BadRows", true), ("BadTable", true), ("BadPaper", true), ("BadJob", true), ("BadAnswers", true), ("BadEntry", true), ("BadText", true), ("BadNumber", true), ("NotKept", true), ("NothingToUndo", true), ("NothingToRedo", true)]
def xo_all : List Str := ["BadName", "NoName", "TakenName", "BadNetwork", "BadPlay", "BadLengths", "BadRows", "BadTable", "BadPaper", "BadJob", "BadAnswers", "BadEntry", "BadText", "BadNumber", "NotKept", "NothingToUndo", "NothingToRedo"]
/-- what the top has left -/
structure Txt (K : PySem.W.Frag) (mg : Str → Option Value) : Prop where
  f_ValueError : mg "ValueError" = none
  f_int : mg "int" = none
  f_isinstance : mg "isinstance" = none
  f_len : mg "len" = none
  f_list : mg "list" = none
  f_range : mg "range" = none
  f_repr : mg "repr" = none
  t__law_pen : DefT K mg "_law_pen" s__law_pen
  t__law_draw : DefT K mg "_law_draw" s__law_draw
  t__law_pick : DefT K mg "_law_pick" s__law_pick
  t__law_single : DefT K mg "_law_single" s__law_single
  t__law_one : DefT K mg "_law_one" s__law_one
  t__law_which : DefT K mg "_law_which" s__law_which
  t_law : DefT K mg "law" s_law
  c_BadText : ClsT K mg "BadText" "BadText.__init__" s_BadText_init fs_BadText
  c_BadNumber : ClsT K mg "BadNumber" "BadNumber.__init__" s_BadNumber_init fs_BadNumber
  c_BadName : ClsT K mg "BadName" "BadName.__init__" s_BadName_init fs_BadName
  c_NoName : ClsT K mg "NoName" "NoName.__init__" s_NoName_init fs_NoName
  c_TakenName : ClsT K mg "TakenName" "TakenName.__init__" s_TakenName_init fs_TakenName
  c_BadNetwork : ClsT K mg "BadNetwork" "BadNetwork.__init__" s_BadNetwork_init fs_BadNetwork
  c_BadPlay : ClsT K mg "BadPlay" "BadPlay.__init__" s_BadPlay_init fs_BadPlay
  c_BadLengths : ClsT K mg "BadLengths" "BadLengths.__init__" s_BadLengths_init fs_BadLengths
  c_BadRows : ClsT K mg "BadRows" "BadRows.__init__" s_BadRows_init fs_BadRows
  c_BadTable : ClsT K mg "BadTable" "BadTable.__init__" s_BadTable_init fs_BadTable
  c_BadPaper : ClsT K mg "BadPaper" "BadPaper.__init__" s_BadPaper_init fs_BadPaper
  c_BadJob : ClsT K mg "BadJob" "BadJob.__init__" s_BadJob_init fs_BadJob
  c_BadAnswers : ClsT K mg "BadAnswers" "BadAnswers.__init__" s_BadAnswers_init fs_BadAnswers
  c_BadEntry : ClsT K mg "BadEntry" "BadEntry.__init__" s_BadEntry_init fs_BadEntry
  c_NotKept : ClsT K mg "NotKept" "NotKept.__init__" s_NotKept_init fs_NotKept
  x_NothingToUndo : Cls0 K mg "NothingToUndo"
  x_NothingToRedo : Cls0 K mg "NothingToRedo"
  a_network : XoAt ⟨K, mg⟩ "network" at_network
  a_play : XoAt ⟨K, mg⟩ "play" at_play
  a_lengths : XoAt ⟨K, mg⟩ "lengths" at_lengths
  a_rows : XoAt ⟨K, mg⟩ "rows" at_rows
  a_table : XoAt ⟨K, mg⟩ "table" at_table
  a_paper : XoAt ⟨K, mg⟩ "paper" at_paper
  a_job : XoAt ⟨K, mg⟩ "job" at_job
  a_answers : XoAt ⟨K, mg⟩ "answers" at_answers
  a_line : XoAt ⟨K, mg⟩ "line" at_line
  a_name : XoAt ⟨K, mg⟩ "name" at_name
  a_column : XoAt ⟨K, mg⟩ "column" at_column
  a_what : XoAt ⟨K, mg⟩ "what" at_what
  a_number : XoAt ⟨K, mg⟩ "number" at_number
  a_promise : XoAt ⟨K, mg⟩ "promise" at_promise
  a_witness : XoAt ⟨K, mg⟩ "witness" at_witness
  i_BadAnswers : XoTab ⟨K, mg⟩ "BadAnswers" tab_BadAnswers
  i_BadEntry : XoTab ⟨K, mg⟩ "BadEntry" tab_BadEntry
  i_BadJob : XoTab ⟨K, mg⟩ "BadJob" tab_BadJob
  i_BadLengths : XoTab ⟨K, mg⟩ "BadLengths" tab_BadLengths
  i_BadName : XoTab ⟨K, mg⟩ "BadName" tab_BadName
  i_BadNetwork : XoTab ⟨K, mg⟩ "BadNetwork" tab_BadNetwork
  i_BadNumber : XoTab ⟨K, mg⟩ "BadNumber" tab_BadNumber
  i_BadPaper : XoTab ⟨K, mg⟩ "BadPaper" tab_BadPaper
  i_BadPlay : XoTab ⟨K, mg⟩ "BadPlay" tab_BadPlay
  i_BadRows : XoTab ⟨K, mg⟩ "BadRows" tab_BadRows
  i_BadTable : XoTab ⟨K, mg⟩ "BadTable" tab_BadTable
  i_BadText : XoTab ⟨K, mg⟩ "BadText" tab_BadText
  i_DoubtError : XoTab ⟨K, mg⟩ "DoubtError" tab_DoubtError
  i_NoName : XoTab ⟨K, mg⟩ "NoName" tab_NoName
  i_NotKept : XoTab ⟨K, mg⟩ "NotKept" tab_NotKept
  i_NothingToRedo : XoTab ⟨K, mg⟩ "NothingToRedo" tab_NothingToRedo
  i_NothingToUndo : XoTab ⟨K, mg⟩ "NothingToUndo" tab_NothingToUndo
  i_TakenName : XoTab ⟨K, mg⟩ "TakenName" tab_TakenName
  i_ValueError : XoTabT ⟨K, mg⟩ "ValueError" tab_ValueError
section
variable {P : Program} {w : World} {K : PySem.W.Frag} {mg : Str → Option Value} {base : Heap}
theorem mk_BadText (T : Txt K mg) : MkS P w K mg base 1 "BadText" fs_BadText :=
  mkS_2 T.c_BadText (N := ["self", "line", "column"]) rfl ⟨rfl, rfl, rfl, by decide +kernel, rfl, by decide +kernel, by decide +kernel⟩ (fun _ _ _ _ _ _ us hl => match us, hl with | [_, _, _], _ => rfl) fun _ _ _ _ _ _ _ => pss_cons (ps_ost (pv 0) (pv 1)) (pss_one (ps_ost (pv 0) (pv 2)))
theorem mk_BadNumber (T : Txt K mg) : MkS P w K mg base 1 "BadNumber" fs_BadNumber :=
  mkS_2 T.c_BadNumber (N := ["self", "what", "number"]) rfl ⟨rfl, rfl, rfl, by decide +kernel, rfl, by decide +kernel, by decide +kernel⟩ (fun _ _ _ _ _ _ us hl => match us, hl with | [_, _, _], _ => rfl) fun _ _ _ _ _ _ _ => pss_cons (ps_ost (pv 0) (pv 1)) (pss_one (ps_ost (pv 0) (pv 2)))
theorem mk_BadName (T : Txt K mg) : MkS P w K mg base 1 "BadName" fs_BadName :=
  mkS_1 T.c_BadName (N := ["self", "name"]) rfl ⟨rfl, rfl, rfl, by decide +kernel, rfl, by decide +kernel, by decide +kernel⟩ (fun _ _ _ _ _ _ us hl => match us, hl with | [_, _], _ => rfl) fun _ _ _ _ _ _ _ => pss_one (ps_ost (pv 0) (pv 1))
theorem mk_NoName (T : Txt K mg) : MkS P w K mg base 1 "NoName" fs_NoName :=
  mkS_1 T.c_NoName (N := ["self", "name"]) rfl ⟨rfl, rfl, rfl, by decide +kernel, rfl, by decide +kernel, by decide +kernel⟩ (fun _ _ _ _ _ _ us hl => match us, hl with | [_, _], _ => rfl) fun _ _ _ _ _ _ _ => pss_one (ps_ost (pv 0) (pv 1))
theorem mk_TakenName (T : Txt K mg) : MkS P w K mg base 1 "TakenName" fs_TakenName :=
  mkS_1 T.c_TakenName (N := ["self", "name"]) rfl ⟨rfl, rfl, rfl, by decide +kernel, rfl, by decide +kernel, by decide +kernel⟩ (fun _ _ _ _ _ _ us hl => match us, hl with | [_, _], _ => rfl) fun _ _ _ _ _ _ _ => pss_one (ps_ost (pv 0) (pv 1))
theorem mk_BadNetwork (T : Txt K mg) : MkS P w K mg base 1 "BadNetwork" fs_BadNetwork :=
  mkS_1 T.c_BadNetwork (N := ["self", "network"]) rfl ⟨rfl, rfl, rfl, by decide +kernel, rfl, by decide +kernel, by decide +kernel⟩ (fun _ _ _ _ _ _ us hl => match us, hl with | [_, _], _ => rfl) fun _ _ _ _ _ _ _ => pss_one (ps_ost (pv 0) (pv 1))
theorem mk_BadPlay (T : Txt K mg) : MkS P w K mg base 1 "BadPlay" fs_BadPlay :=
  mkS_1 T.c_BadPlay (N := ["self", "play"]) rfl ⟨rfl, rfl, rfl, by decide +kernel, rfl, by decide +kernel, by decide +kernel⟩ (fun _ _ _ _ _ _ us hl => match us, hl with | [_, _], _ => rfl) fun _ _ _ _ _ _ _ => pss_one (ps_ost (pv 0) (pv 1))
theorem mk_BadLengths (T : Txt K mg) : MkS P w K mg base 1 "BadLengths" fs_BadLengths :=
  mkS_1 T.c_BadLengths (N := ["self", "lengths"]) rfl ⟨rfl, rfl, rfl, by decide +kernel, rfl, by decide +kernel, by decide +kernel⟩ (fun _ _ _ _ _ _ us hl => match us, hl with | [_, _], _ => rfl) fun _ _ _ _ _ _ _ => pss_one (ps_ost (pv 0) (pv 1))
theorem mk_BadRows (T : Txt K mg) : MkS P w K mg base 1 "BadRows" fs_BadRows :=
  mkS_1 T.c_BadRows (N := ["self", "rows"]) rfl ⟨rfl, rfl, rfl, by decide +kernel, rfl, by decide +kernel, by decide +kernel⟩ (fun _ _ _ _ _ _ us hl => match us, hl with | [_, _], _ => rfl) fun _ _ _ _ _ _ _ => pss_one (ps_ost (pv 0) (pv 1))
theorem mk_BadTable (T : Txt K mg) : MkS P w K mg base 1 "BadTable" fs_BadTable :=
  mkS_1 T.c_BadTable (N := ["self", "table"]) rfl ⟨rfl, rfl, rfl, by decide +kernel, rfl, by decide +kernel, by decide +kernel⟩ (fun _ _ _ _ _ _ us hl => match us, hl with | [_, _], _ => rfl) fun _ _ _ _ _ _ _ => pss_one (ps_ost (pv 0) (pv 1))
theorem mk_BadPaper (T : Txt K mg) : MkS P w K mg base 1 "BadPaper" fs_BadPaper :=
  mkS_1 T.c_BadPaper (N := ["self", "paper"]) rfl ⟨rfl, rfl, rfl, by decide +kernel, rfl, by decide +kernel, by decide +kernel⟩ (fun _ _ _ _ _ _ us hl => match us, hl with | [_, _], _ => rfl) fun _ _ _ _ _ _ _ => pss_one (ps_ost (pv 0) (pv 1))
theorem mk_BadJob (T : Txt K mg) : MkS P w K mg base 1 "BadJob" fs_BadJob :=
  mkS_1 T.c_BadJob (N := ["self", "job"]) rfl ⟨rfl, rfl, rfl, by decide +kernel, rfl, by decide +kernel, by decide +kernel⟩ (fun _ _ _ _ _ _ us hl => match us, hl with | [_, _], _ => rfl) fun _ _ _ _ _ _ _ => pss_one (ps_ost (pv 0) (pv 1))
theorem mk_BadAnswers (T : Txt K mg) : MkS P w K mg base 1 "BadAnswers" fs_BadAnswers :=
  mkS_1 T.c_BadAnswers (N := ["self", "answers"]) rfl ⟨rfl, rfl, rfl, by decide +kernel, rfl, by decide +kernel, by decide +kernel⟩ (fun _ _ _ _ _ _ us hl => match us, hl with | [_, _], _ => rfl) fun _ _ _ _ _ _ _ => pss_one (ps_ost (pv 0) (pv 1))
theorem mk_BadEntry (T : Txt K mg) : MkS P w K mg base 1 "BadEntry" fs_BadEntry :=
  mkS_1 T.c_BadEntry (N := ["self", "line"]) rfl ⟨rfl, rfl, rfl, by decide +kernel, rfl, by decide +kernel, by decide +kernel⟩ (fun _ _ _ _ _ _ us hl => match us, hl with | [_, _], _ => rfl) fun _ _ _ _ _ _ _ => pss_one (ps_ost (pv 0) (pv 1))
theorem mk_NotKept (T : Txt K mg) : MkS P w K mg base 1 "NotKept" fs_NotKept :=
  mkS_2 T.c_NotKept (N := ["self", "promise", "witness"]) rfl ⟨rfl, rfl, rfl, by decide +kernel, rfl, by decide +kernel, by decide +kernel⟩ (fun _ _ _ _ _ _ us hl => match us, hl with | [_, _, _], _ => rfl) fun _ _ _ _ _ _ _ => pss_cons (ps_ost (pv 0) (pv 1)) (pss_one (ps_ost (pv 0) (pv 2)))
def b__law_pen_2 : MS := sSet 1 (m2 modD (mF (f1 intD) [m2 addD (m2 (mulD mkF) (mVar 1) (mC (.int 229))) (mVar 2)]) (mC (.int 1000000033)))
def q__law_pen_4 : MS := sRet (mDisp [(mC (.str "cells"), mF (f1 (listD mkF)) [mVar 0]), (mC (.str "at"), mC (.int 0)), (mC (.str "digits"), mC (.int 0)), (mC (.str "count"), mC (.int 0)), (mC (.str "fold"), mVar 1)])
def q__law_pen_2 : MS := sSeq (sFor (mIt (mVar 0)) (gNm 2) b__law_pen_2) (q__law_pen_4)
def m__law_pen : MS := sSeq (sSet 1 (mC (.int 0))) (q__law_pen_2)
def F__law_pen : FL := fun ds st0 => (fun _ r => r) st0 (bodyF m__law_pen 3 ds st0)
theorem d__law_pen (T : Txt K mg) : DefS P w K mg base 3 "_law_pen" ["script"] F__law_pen :=
  def_mk (fun _ r => r) wr_id T.t__law_pen (N := ["script", "fold", "cell"]) ⟨rfl, rfl, rfl, by decide +kernel, rfl, by decide +kernel, by decide +kernel⟩ (fun _ _ _ _ _ _ us hl => match us, hl with | [_], _ => rfl) fun _ _ _ _ _ _ _ (c : XC 2 _) =>
  (ss_cons (xset 1 c se_int)
  (ss_cons (s_for c (si_seq (xv 0)) (xg 2 c) (ss_one (xset 1 c (x_mod (x_int (T.f_int) (x_add (x_mul mkF_ok (xv 1) se_int) (xv 2))) se_int))))
  (ss_one (s_ret (se_disp (spps_cons se_str (x_list mkF_ok (T.f_list) (xv 0)) (spps_cons se_str se_int (spps_cons se_str se_int (spps_cons se_str se_int (spps_cons se_str (xv 1) spps_nil))))))))))
def q__law_draw_5 : MS := sIf (asB (m2 geD (mVar 2) (m2 powD (mC (.int 10)) (mC (.int 18))))) (sAsg (m2 subD (mVar 2) (m2 powD (mC (.int 10)) (mC (.int 18)))) (gSubD (mVar 0) (mC (.str "digits")))) (sAsg (m2 modD (mF (f1 intD) [m2 addD (m2 (mulD mkF) (m2 ixD (mVar 0) (mC (.str "fold"))) (mC (.int 73673))) (mVar 2)]) (mC (.int 2147483543))) (gSubD (mVar 0) (mC (.str "fold"))))
def q__law_draw_4 : MS := sSeq (sAsg (m2 addD (m2 ixD (mVar 0) (mC (.str "at"))) (mC (.int 1))) (gSubD (mVar 0) (mC (.str "at")))) (q__law_draw_5)
def q__law_draw_12 : MS := sRet (mVar 3)
def q__law_draw_11 : MS := sSeq (sAsg (m2 fdivD (m2 ixD (mVar 0) (mC (.str "digits"))) (mVar 1)) (gSubD (mVar 0) (mC (.str "digits")))) (q__law_draw_12)
def q__law_draw_14 : MS := sRet (m2 modD (m2 fdivD (mF (f1 intD) [m2 modD (m2 powD (mVar 4) (mC (.int 23))) (mC (.int 2305843009213693951))]) (mC (.int 128))) (mVar 1))
def q__law_draw_13 : MS := sSeq (sSet 4 (m2 addD (m2 addD (m2 ixD (mVar 0) (mC (.str "fold"))) (m2 (mulD mkF) (m2 ixD (mVar 0) (mC (.str "count"))) (mC (.int 9817)))) (mC (.int 229)))) (q__law_draw_14)
def q__law_draw_9 : MS := sSeq (sIf (asB (m2 gtD (m2 ixD (mVar 0) (mC (.str "digits"))) (mC (.int 0)))) (sSeq (sSet 3 (m2 modD (mF (f1 intD) [m2 ixD (mVar 0) (mC (.str "digits"))]) (mVar 1))) (q__law_draw_11)) (sNil)) (q__law_draw_13)
def q__law_draw_2 : MS := sSeq (sIf (mAnd (asB (m2 eqD (m2 ixD (mVar 0) (mC (.str "digits"))) (mC (.int 0)))) (asB (m2 ltD (m2 ixD (mVar 0) (mC (.str "at"))) (mF (f1 lenD) [m2 ixD (mVar 0) (mC (.str "cells"))])))) (sSeq (sSet 2 (m2 ixD (m2 ixD (mVar 0) (mC (.str "cells"))) (m2 ixD (mVar 0) (mC (.str "at"))))) (q__law_draw_4)) (sNil)) (q__law_draw_9)
def m__law_draw : MS := sSeq (sAsg (m2 addD (m2 ixD (mVar 0) (mC (.str "count"))) (mC (.int 1))) (gSubD (mVar 0) (mC (.str "count")))) (q__law_draw_2)
def F__law_draw : FL := fun ds st0 => (fun _ r => r) st0 (bodyF m__law_draw 5 ds st0)
theorem d__law_draw (T : Txt K mg) : DefS P w K mg base 3 "_law_draw" ["pen", "many"] F__law_draw :=
  def_mk (fun _ r => r) wr_id T.t__law_draw (N := ["pen", "many", "cell", "digit", "blend"]) ⟨rfl, rfl, rfl, by decide +kernel, rfl, by decide +kernel, by decide +kernel⟩ (fun _ _ _ _ _ _ us hl => match us, hl with | [_, _], _ => rfl) fun _ _ _ _ _ _ _ (c : XC 2 _) =>
  (ss_cons (s_asg (x_add (x_ix c (xv 0) se_str) se_int) (sg_sub c.xr (xv 0) se_str))
  (ss_cons (s_if (sw_and (t_eq c (x_ix c (xv 0) se_str) se_int) (sw_and1 (t_lt c (x_ix c (xv 0) se_str) (x_len (T.f_len) (x_ix c (xv 0) se_str))))).st (ss_cons (xset 2 c (x_ix c (x_ix c (xv 0) se_str) (x_ix c (xv 0) se_str)))
  (ss_cons (s_asg (x_add (x_ix c (xv 0) se_str) se_int) (sg_sub c.xr (xv 0) se_str))
  (ss_one (s_if (t_ge (xv 2) (x_pow se_int se_int)) (ss_one (s_asg (x_sub (xv 2) (x_pow se_int se_int)) (sg_sub c.xr (xv 0) se_str))) (ss_one (s_asg (x_mod (x_int (T.f_int) (x_add (x_mul mkF_ok (x_ix c (xv 0) se_str) se_int) (xv 2))) se_int) (sg_sub c.xr (xv 0) se_str))))))) ss_nil)
  (ss_cons (s_if (t_gt (x_ix c (xv 0) se_str) se_int) (ss_cons (xset 3 c (x_mod (x_int (T.f_int) (x_ix c (xv 0) se_str)) (xv 1)))
  (ss_cons (s_asg (x_fdiv (x_ix c (xv 0) se_str) (xv 1)) (sg_sub c.xr (xv 0) se_str))
  (ss_one (s_ret (xv 3))))) ss_nil)
  (ss_cons (xset 4 c (x_add (x_add (x_ix c (xv 0) se_str) (x_mul mkF_ok (x_ix c (xv 0) se_str) se_int)) se_int))
  (ss_one (s_ret (x_mod (x_fdiv (x_int (T.f_int) (x_mod (x_pow (xv 4) se_int) se_int)) se_int) (xv 1))))))))
def m__law_pick : MS := sRet (m2 ixD (mVar 1) (mF F__law_draw [mVar 0, mF (f1 lenD) [mVar 1]]))
def F__law_pick : FL := fun ds st0 => (fun _ r => r) st0 (bodyF m__law_pick 2 ds st0)
theorem d__law_pick (T : Txt K mg) : DefS P w K mg base 4 "_law_pick" ["pen", "some"] F__law_pick :=
  def_mk (fun _ r => r) wr_id T.t__law_pick (N := ["pen", "some"]) ⟨rfl, rfl, rfl, by decide +kernel, rfl, by decide +kernel, by decide +kernel⟩ (fun _ _ _ _ _ _ us hl => match us, hl with | [_, _], _ => rfl) fun _ _ _ _ _ _ _ (c : XC 3 _) =>
  (ss_one (s_ret (x_ix c (xv 1) (se_call (d__law_draw T) c.xr.mono (by rfl) (sa_cons (xv 0) (sa_cons (x_len (T.f_len) (xv 1)) sa_nil)) (by rfl)))))
def q__law_single_3 : MS := sRet (mTup [mVar 2, mTup [m1 (attrX "network" at_network) (mVar 2)]])
def q__law_single_6 : MS := sRet (mTup [mVar 2, mTup [m1 (attrX "play" at_play) (mVar 2)]])
def q__law_single_9 : MS := sRet (mTup [mVar 2, mTup [m1 (attrX "lengths" at_lengths) (mVar 2)]])
def q__law_single_12 : MS := sRet (mTup [mVar 2, mTup [m1 (attrX "rows" at_rows) (mVar 2)]])
def q__law_single_15 : MS := sRet (mTup [mVar 2, mTup [m1 (attrX "table" at_table) (mVar 2)]])
def q__law_single_18 : MS := sRet (mTup [mVar 2, mTup [m1 (attrX "paper" at_paper) (mVar 2)]])
def q__law_single_21 : MS := sRet (mTup [mVar 2, mTup [m1 (attrX "job" at_job) (mVar 2)]])
def q__law_single_24 : MS := sRet (mTup [mVar 2, mTup [m1 (attrX "answers" at_answers) (mVar 2)]])
def q__law_single_26 : MS := sRet (mTup [mVar 2, mTup [m1 (attrX "line" at_line) (mVar 2)]])
def q__law_single_25 : MS := sSeq (sSet 2 (mMk "BadEntry" fs_BadEntry [mVar 1])) (q__law_single_26)
def q__law_single_22 : MS := sSeq (sIf (asB (m2 eqD (mVar 0) (mC (.int 10)))) (sSeq (sSet 2 (mMk "BadAnswers" fs_BadAnswers [mVar 1])) (q__law_single_24)) (sNil)) (q__law_single_25)
def q__law_single_19 : MS := sSeq (sIf (asB (m2 eqD (mVar 0) (mC (.int 9)))) (sSeq (sSet 2 (mMk "BadJob" fs_BadJob [mVar 1])) (q__law_single_21)) (sNil)) (q__law_single_22)
def q__law_single_16 : MS := sSeq (sIf (asB (m2 eqD (mVar 0) (mC (.int 8)))) (sSeq (sSet 2 (mMk "BadPaper" fs_BadPaper [mVar 1])) (q__law_single_18)) (sNil)) (q__law_single_19)
def q__law_single_13 : MS := sSeq (sIf (asB (m2 eqD (mVar 0) (mC (.int 7)))) (sSeq (sSet 2 (mMk "BadTable" fs_BadTable [mVar 1])) (q__law_single_15)) (sNil)) (q__law_single_16)
def q__law_single_10 : MS := sSeq (sIf (asB (m2 eqD (mVar 0) (mC (.int 6)))) (sSeq (sSet 2 (mMk "BadRows" fs_BadRows [mVar 1])) (q__law_single_12)) (sNil)) (q__law_single_13)
def q__law_single_7 : MS := sSeq (sIf (asB (m2 eqD (mVar 0) (mC (.int 5)))) (sSeq (sSet 2 (mMk "BadLengths" fs_BadLengths [mVar 1])) (q__law_single_9)) (sNil)) (q__law_single_10)
def q__law_single_4 : MS := sSeq (sIf (asB (m2 eqD (mVar 0) (mC (.int 4)))) (sSeq (sSet 2 (mMk "BadPlay" fs_BadPlay [mVar 1])) (q__law_single_6)) (sNil)) (q__law_single_7)
def m__law_single : MS := sSeq (sIf (asB (m2 eqD (mVar 0) (mC (.int 3)))) (sSeq (sSet 2 (mMk "BadNetwork" fs_BadNetwork [mVar 1])) (q__law_single_3)) (sNil)) (q__law_single_4)
def F__law_single : FL := fun ds st0 => (fun _ r => r) st0 (bodyF m__law_single 3 ds st0)
theorem d__law_single (T : Txt K mg) : DefS P w K mg base 3 "_law_single" ["kind", "a"] F__law_single :=
  def_mk (fun _ r => r) wr_id T.t__law_single (N := ["kind", "a", "e"]) ⟨rfl, rfl, rfl, by decide +kernel, rfl, by decide +kernel, by decide +kernel⟩ (fun _ _ _ _ _ _ us hl => match us, hl with | [_, _], _ => rfl) fun _ _ _ _ _ _ _ (c : XC 2 _) =>
  (ss_cons (s_if (t_eq c (xv 0) se_int) (ss_cons (xset 2 c (se_mk (mk_BadNetwork T) c.xr.mono (by rfl) (sa_cons (xv 1) sa_nil)))
  (ss_one (s_ret (se_tup (sa_cons (xv 2) (sa_cons (se_tup (sa_cons (se_atX T.a_network (xv 2)) sa_nil) (by decide)) sa_nil)) (by decide))))) ss_nil)
  (ss_cons (s_if (t_eq c (xv 0) se_int) (ss_cons (xset 2 c (se_mk (mk_BadPlay T) c.xr.mono (by rfl) (sa_cons (xv 1) sa_nil)))
  (ss_one (s_ret (se_tup (sa_cons (xv 2) (sa_cons (se_tup (sa_cons (se_atX T.a_play (xv 2)) sa_nil) (by decide)) sa_nil)) (by decide))))) ss_nil)
  (ss_cons (s_if (t_eq c (xv 0) se_int) (ss_cons (xset 2 c (se_mk (mk_BadLengths T) c.xr.mono (by rfl) (sa_cons (xv 1) sa_nil)))
  (ss_one (s_ret (se_tup (sa_cons (xv 2) (sa_cons (se_tup (sa_cons (se_atX T.a_lengths (xv 2)) sa_nil) (by decide)) sa_nil)) (by decide))))) ss_nil)
  (ss_cons (s_if (t_eq c (xv 0) se_int) (ss_cons (xset 2 c (se_mk (mk_BadRows T) c.xr.mono (by rfl) (sa_cons (xv 1) sa_nil)))
  (ss_one (s_ret (se_tup (sa_cons (xv 2) (sa_cons (se_tup (sa_cons (se_atX T.a_rows (xv 2)) sa_nil) (by decide)) sa_nil)) (by decide))))) ss_nil)
  (ss_cons (s_if (t_eq c (xv 0) se_int) (ss_cons (xset 2 c (se_mk (mk_BadTable T) c.xr.mono (by rfl) (sa_cons (xv 1) sa_nil)))
  (ss_one (s_ret (se_tup (sa_cons (xv 2) (sa_cons (se_tup (sa_cons (se_atX T.a_table (xv 2)) sa_nil) (by decide)) sa_nil)) (by decide))))) ss_nil)
  (ss_cons (s_if (t_eq c (xv 0) se_int) (ss_cons (xset 2 c (se_mk (mk_BadPaper T) c.xr.mono (by rfl) (sa_cons (xv 1) sa_nil)))
  (ss_one (s_ret (se_tup (sa_cons (xv 2) (sa_cons (se_tup (sa_cons (se_atX T.a_paper (xv 2)) sa_nil) (by decide)) sa_nil)) (by decide))))) ss_nil)
  (ss_cons (s_if (t_eq c (xv 0) se_int) (ss_cons (xset 2 c (se_mk (mk_BadJob T) c.xr.mono (by rfl) (sa_cons (xv 1) sa_nil)))
  (ss_one (s_ret (se_tup (sa_cons (xv 2) (sa_cons (se_tup (sa_cons (se_atX T.a_job (xv 2)) sa_nil) (by decide)) sa_nil)) (by decide))))) ss_nil)
  (ss_cons (s_if (t_eq c (xv 0) se_int) (ss_cons (xset 2 c (se_mk (mk_BadAnswers T) c.xr.mono (by rfl) (sa_cons (xv 1) sa_nil)))
  (ss_one (s_ret (se_tup (sa_cons (xv 2) (sa_cons (se_tup (sa_cons (se_atX T.a_answers (xv 2)) sa_nil) (by decide)) sa_nil)) (by decide))))) ss_nil)
  (ss_cons (xset 2 c (se_mk (mk_BadEntry T) c.xr.mono (by rfl) (sa_cons (xv 1) sa_nil)))
  (ss_one (s_ret (se_tup (sa_cons (xv 2) (sa_cons (se_tup (sa_cons (se_atX T.a_line (xv 2)) sa_nil) (by decide)) sa_nil)) (by decide)))))))))))))
def q__law_one_3 : MS := sRet (mTup [mVar 3, mTup [m1 (attrX "name" at_name) (mVar 3)]])
def q__law_one_8 : MS := sRet (mTup [mVar 3, mTup [m1 (attrX "line" at_line) (mVar 3), m1 (attrX "column" at_column) (mVar 3)]])
def q__law_one_11 : MS := sRet (mTup [mVar 3, mTup [m1 (attrX "what" at_what) (mVar 3), m1 (attrX "number" at_number) (mVar 3)]])
def q__law_one_14 : MS := sRet (mTup [mVar 3, mTup [m1 (attrX "promise" at_promise) (mVar 3), m1 (attrX "witness" at_witness) (mVar 3)]])
def q__law_one_15 : MS := sRet (mTup [mIf (asB (m2 eqD (mVar 0) (mC (.int 15)))) (mMk0 "NothingToUndo") (mMk0 "NothingToRedo"), mTup []])
def q__law_one_12 : MS := sSeq (sIf (asB (m2 eqD (mVar 0) (mC (.int 14)))) (sSeq (sSet 3 (mMk "NotKept" fs_NotKept [mVar 1, mVar 2])) (q__law_one_14)) (sNil)) (q__law_one_15)
def q__law_one_9 : MS := sSeq (sIf (asB (m2 eqD (mVar 0) (mC (.int 13)))) (sSeq (sSet 3 (mMk "BadNumber" fs_BadNumber [mVar 1, mVar 2])) (q__law_one_11)) (sNil)) (q__law_one_12)
def q__law_one_6 : MS := sSeq (sIf (asB (m2 eqD (mVar 0) (mC (.int 12)))) (sSeq (sSet 3 (mMk "BadText" fs_BadText [mVar 1, mVar 2])) (q__law_one_8)) (sNil)) (q__law_one_9)
def q__law_one_4 : MS := sSeq (sIf (asB (m2 ltD (mVar 0) (mC (.int 12)))) (sRet (mF F__law_single [mVar 0, mVar 1])) (sNil)) (q__law_one_6)
def m__law_one : MS := sSeq (sIf (asB (m2 ltD (mVar 0) (mC (.int 3)))) (sSeq (sSet 3 (m2 ixD (mLst mkF [mMk "BadName" fs_BadName [mVar 1], mMk "NoName" fs_NoName [mVar 1], mMk "TakenName" fs_TakenName [mVar 1]]) (mVar 0))) (q__law_one_3)) (sNil)) (q__law_one_4)
def F__law_one : FL := fun ds st0 => (fun _ r => r) st0 (bodyF m__law_one 4 ds st0)
theorem d__law_one (T : Txt K mg) : DefS P w K mg base 4 "_law_one" ["kind", "a", "b"] F__law_one :=
  def_mk (fun _ r => r) wr_id T.t__law_one (N := ["kind", "a", "b", "e"]) ⟨rfl, rfl, rfl, by decide +kernel, rfl, by decide +kernel, by decide +kernel⟩ (fun _ _ _ _ _ _ us hl => match us, hl with | [_, _, _], _ => rfl) fun _ _ _ _ _ _ _ (c : XC 3 _) =>
  (ss_cons (s_if (t_lt c (xv 0) se_int) (ss_cons (xset 3 c (x_ix c (se_lst mkF_ok (sa_cons (se_mk (mk_BadName T) c.xr.mono (by rfl) (sa_cons (xv 1) sa_nil)) (sa_cons (se_mk (mk_NoName T) c.xr.mono (by rfl) (sa_cons (xv 1) sa_nil)) (sa_cons (se_mk (mk_TakenName T) c.xr.mono (by rfl) (sa_cons (xv 1) sa_nil)) sa_nil))) (by decide)) (xv 0)))
  (ss_one (s_ret (se_tup (sa_cons (xv 3) (sa_cons (se_tup (sa_cons (se_atX T.a_name (xv 3)) sa_nil) (by decide)) sa_nil)) (by decide))))) ss_nil)
  (ss_cons (s_if (t_lt c (xv 0) se_int) (ss_one (s_ret (se_call (d__law_single T) c.xr.mono (by rfl) (sa_cons (xv 0) (sa_cons (xv 1) sa_nil)) (by rfl)))) ss_nil)
  (ss_cons (s_if (t_eq c (xv 0) se_int) (ss_cons (xset 3 c (se_mk (mk_BadText T) c.xr.mono (by rfl) (sa_cons (xv 1) (sa_cons (xv 2) sa_nil))))
  (ss_one (s_ret (se_tup (sa_cons (xv 3) (sa_cons (se_tup (sa_cons (se_atX T.a_line (xv 3)) (sa_cons (se_atX T.a_column (xv 3)) sa_nil)) (by decide)) sa_nil)) (by decide))))) ss_nil)
  (ss_cons (s_if (t_eq c (xv 0) se_int) (ss_cons (xset 3 c (se_mk (mk_BadNumber T) c.xr.mono (by rfl) (sa_cons (xv 1) (sa_cons (xv 2) sa_nil))))
  (ss_one (s_ret (se_tup (sa_cons (xv 3) (sa_cons (se_tup (sa_cons (se_atX T.a_what (xv 3)) (sa_cons (se_atX T.a_number (xv 3)) sa_nil)) (by decide)) sa_nil)) (by decide))))) ss_nil)
  (ss_cons (s_if (t_eq c (xv 0) se_int) (ss_cons (xset 3 c (se_mk (mk_NotKept T) c.xr.mono (by rfl) (sa_cons (xv 1) (sa_cons (xv 2) sa_nil))))
  (ss_one (s_ret (se_tup (sa_cons (xv 3) (sa_cons (se_tup (sa_cons (se_atX T.a_promise (xv 3)) (sa_cons (se_atX T.a_witness (xv 3)) sa_nil)) (by decide)) sa_nil)) (by decide))))) ss_nil)
  (ss_one (s_ret (se_tup (sa_cons (se_if (t_eq c (xv 0) se_int) (se_mk0 T.x_NothingToUndo c.xr (by rfl)) (se_mk0 T.x_NothingToRedo c.xr (by rfl))) (sa_cons (se_tup sa_nil (by decide)) sa_nil)) (by decide)))))))))
def q__law_which_6 : MS := sRet (m2 addD (mVar 1) (mLst mkF [m1 (isXoD tab_NothingToUndo) (mVar 0), m1 (isXoD tab_NothingToRedo) (mVar 0)]))
def q__law_which_5 : MS := sSeq (sSet 1 (m2 addD (mVar 1) (mLst mkF [m1 (isXoD tab_BadText) (mVar 0), m1 (isXoD tab_BadNumber) (mVar 0), m1 (isXoD tab_NotKept) (mVar 0)]))) (q__law_which_6)
def q__law_which_4 : MS := sSeq (sSet 1 (m2 addD (mVar 1) (mLst mkF [m1 (isXoD tab_BadJob) (mVar 0), m1 (isXoD tab_BadAnswers) (mVar 0), m1 (isXoD tab_BadEntry) (mVar 0)]))) (q__law_which_5)
def q__law_which_3 : MS := sSeq (sSet 1 (m2 addD (mVar 1) (mLst mkF [m1 (isXoD tab_BadRows) (mVar 0), m1 (isXoD tab_BadTable) (mVar 0), m1 (isXoD tab_BadPaper) (mVar 0)]))) (q__law_which_4)
def q__law_which_2 : MS := sSeq (sSet 1 (m2 addD (mVar 1) (mLst mkF [m1 (isXoD tab_BadNetwork) (mVar 0), m1 (isXoD tab_BadPlay) (mVar 0), m1 (isXoD tab_BadLengths) (mVar 0)]))) (q__law_which_3)
def m__law_which : MS := sSeq (sSet 1 (mLst mkF [m1 (isXoD tab_BadName) (mVar 0), m1 (isXoD tab_NoName) (mVar 0), m1 (isXoD tab_TakenName) (mVar 0)])) (q__law_which_2)
def F__law_which : FL := fun ds st0 => (fun _ r => r) st0 (bodyF m__law_which 2 ds st0)
theorem d__law_which (T : Txt K mg) : DefS P w K mg base 3 "_law_which" ["e"] F__law_which :=
  def_mk (fun _ r => r) wr_id T.t__law_which (N := ["e", "found"]) ⟨rfl, rfl, rfl, by decide +kernel, rfl, by decide +kernel, by decide +kernel⟩ (fun _ _ _ _ _ _ us hl => match us, hl with | [_], _ => rfl) fun _ _ _ _ _ _ _ (c : XC 2 _) =>
  (ss_cons (xset 1 c (se_lst mkF_ok (sa_cons (se_isXo T.i_BadName (by rfl) (T.f_isinstance) (xv 0) (by rfl)) (sa_cons (se_isXo T.i_NoName (by rfl) (T.f_isinstance) (xv 0) (by rfl)) (sa_cons (se_isXo T.i_TakenName (by rfl) (T.f_isinstance) (xv 0) (by rfl)) sa_nil))) (by decide)))
  (ss_cons (xset 1 c (x_add (xv 1) (se_lst mkF_ok (sa_cons (se_isXo T.i_BadNetwork (by rfl) (T.f_isinstance) (xv 0) (by rfl)) (sa_cons (se_isXo T.i_BadPlay (by rfl) (T.f_isinstance) (xv 0) (by rfl)) (sa_cons (se_isXo T.i_BadLengths (by rfl) (T.f_isinstance) (xv 0) (by rfl)) sa_nil))) (by decide))))
  (ss_cons (xset 1 c (x_add (xv 1) (se_lst mkF_ok (sa_cons (se_isXo T.i_BadRows (by rfl) (T.f_isinstance) (xv 0) (by rfl)) (sa_cons (se_isXo T.i_BadTable (by rfl) (T.f_isinstance) (xv 0) (by rfl)) (sa_cons (se_isXo T.i_BadPaper (by rfl) (T.f_isinstance) (xv 0) (by rfl)) sa_nil))) (by decide))))
  (ss_cons (xset 1 c (x_add (xv 1) (se_lst mkF_ok (sa_cons (se_isXo T.i_BadJob (by rfl) (T.f_isinstance) (xv 0) (by rfl)) (sa_cons (se_isXo T.i_BadAnswers (by rfl) (T.f_isinstance) (xv 0) (by rfl)) (sa_cons (se_isXo T.i_BadEntry (by rfl) (T.f_isinstance) (xv 0) (by rfl)) sa_nil))) (by decide))))
  (ss_cons (xset 1 c (x_add (xv 1) (se_lst mkF_ok (sa_cons (se_isXo T.i_BadText (by rfl) (T.f_isinstance) (xv 0) (by rfl)) (sa_cons (se_isXo T.i_BadNumber (by rfl) (T.f_isinstance) (xv 0) (by rfl)) (sa_cons (se_isXo T.i_NotKept (by rfl) (T.f_isinstance) (xv 0) (by rfl)) sa_nil))) (by decide))))
  (ss_one (s_ret (x_add (xv 1) (se_lst mkF_ok (sa_cons (se_isXo T.i_NothingToUndo (by rfl) (T.f_isinstance) (xv 0) (by rfl)) (sa_cons (se_isXo T.i_NothingToRedo (by rfl) (T.f_isinstance) (xv 0) (by rfl)) sa_nil)) (by decide))))))))))
def q_law_12 : MS := sIf (asB (m2 neD (mF F__law_which [mVar 7]) (mLC finF (mRng1 (mC (.int 17))) (gNm 10) (mYes) (m2 eqD (mVar 10) (mVar 3)) [10]))) (sRet (mC (.bl false))) (sNil)
def q_law_10 : MS := sSeq (sIf (mOr (mNot (asT (m1 (isXoD tab_DoubtError) (mVar 7)))) (mNot (asT (m1 (isXoD tab_ValueError) (mVar 7))))) (sRet (mC (.bl false))) (sNil)) (q_law_12)
def q_law_8 : MS := sSeq (sIf (asB (m2 neD (mF (f1 reprD) [mVar 8]) (m2 ixD (mVar 6) (mF (f1 lenD) [mVar 8])))) (sRet (mC (.bl false))) (sNil)) (q_law_10)
def q_law_7 : MS := sSeq (sAsg (mF F__law_one [mVar 3, mVar 4, mVar 5]) (gTp 2 (gsCons (gNm 7) (gsCons (gNm 8) (gsNil))))) (q_law_8)
def q_law_6 : MS := sSeq (sSet 6 (mLC finF (mRng1 (mC (.int 3))) (gNm 9) (mYes) (mF (f1 reprD) [mSlice mkF (mTup [mVar 4, mVar 5]) mNoPart (mPart (mVar 9))]) [9])) (q_law_7)
def b_law_4 : MS := sSeq (sAsg (mTup [mF F__law_pick [mVar 1, mVar 2], mF F__law_pick [mVar 1, mVar 2]]) (gTp 2 (gsCons (gNm 4) (gsCons (gNm 5) (gsNil))))) (q_law_6)
def q_law_14 : MS := sRet (mC (.bl true))
def q_law_4 : MS := sSeq (sFor (mRng1 (mC (.int 17))) (gNm 3) b_law_4) (q_law_14)
def q_law_3 : MS := sSeq (sDrop (mBM "list" appendD (mVar 2) [mTup [mTup [mC (.int 0), mC (.int 0)]]])) (q_law_4)
def q_law_2 : MS := sSeq (sSet 2 (mLst mkN [mC .non, mC (.bl true), mC (.int 0), m2 subD (m1 negD (mC (.int 1))) (mF F__law_draw [mVar 1, mC (.int 9)]), m2 addD (m2 powD (mC (.int 10)) (mC (.int 40))) (mF F__law_draw [mVar 1, mC (.int 99)]), mC (.str ""), mC (.str "log"), mTup [mC (.int 1), mC (.int 2)], mLst mkF [mC (.int 3)], mTup [mC (.str "b"), mC (.str "c")]])) (q_law_3)
def m_law : MS := sSeq (sSet 1 (mF F__law_pen [mVar 0])) (q_law_2)
def F_law : FL := fun ds st0 => (fun _ r => r) st0 (bodyF m_law 11 ds st0)
theorem d_law (T : Txt K mg) : DefS P w K mg base 5 "law" ["script"] F_law :=
  def_mk (fun _ r => r) wr_id T.t_law (N := ["script", "pen", "menu", "kind", "a", "b", "dues", "e", "fields", "many", "k"]) ⟨rfl, rfl, rfl, by decide +kernel, rfl, by decide +kernel, by decide +kernel⟩ (fun _ _ _ _ _ _ us hl => match us, hl with | [_], _ => rfl) fun _ _ _ _ _ _ _ (c : XC 4 _) =>
  (ss_cons (xset 1 c (se_call (d__law_pen T) c.xr.mono (by rfl) (sa_cons (xv 0) sa_nil) (by rfl)))
  (ss_cons (xset 2 c (se_lst mkN_ok (sa_cons se_non (sa_cons se_bl (sa_cons se_int (sa_cons (x_sub (x_neg se_int) (se_call (d__law_draw T) c.xr.mono (by rfl) (sa_cons (xv 1) (sa_cons se_int sa_nil)) (by rfl))) (sa_cons (x_add (x_pow se_int se_int) (se_call (d__law_draw T) c.xr.mono (by rfl) (sa_cons (xv 1) (sa_cons se_int sa_nil)) (by rfl))) (sa_cons se_str (sa_cons se_str (sa_cons (se_tup (sa_cons se_int (sa_cons se_int sa_nil)) (by decide)) (sa_cons (se_lst mkF_ok (sa_cons se_int sa_nil) (by decide)) (sa_cons (se_tup (sa_cons se_str (sa_cons se_str sa_nil)) (by decide)) sa_nil)))))))))) (by decide)))
  (ss_cons (s_expr (x_append (xv 2) (se_tup (sa_cons (se_tup (sa_cons se_int (sa_cons se_int sa_nil)) (by decide)) sa_nil) (by decide))))
  (ss_cons (s_for c (si_range1 se_int (by rfl) (T.f_range)) (xg 3 c) (ss_cons (s_asg (se_tup (sa_cons (se_call (d__law_pick T) c.xr.mono (by rfl) (sa_cons (xv 1) (sa_cons (xv 2) sa_nil)) (by rfl)) (sa_cons (se_call (d__law_pick T) c.xr.mono (by rfl) (sa_cons (xv 1) (sa_cons (xv 2) sa_nil)) (by rfl)) sa_nil)) (by decide)) (sg_tup c.calm (sgs_cons (xg 4 c) (sgs_cons (xg 5 c) sgs_nil))))
  (ss_cons (s_setLcX 6 finF_ok c (si_range1 se_int (by rfl) (T.f_range)) (own := [("many", 9)]) (by rfl) (by decide) (fun _ _ _ _ _ c' => (xg 9 c')) (fun _ _ _ _ _ c' => sts_nil) (fun _ _ _ _ _ c' => (x_repr c' (T.f_repr) (se_slice mkF_ok (se_tup (sa_cons (xv 4) (sa_cons (xv 5) sa_nil)) (by decide)) so_none (so_some (xv 9))))))
  (ss_cons (s_asg (se_call (d__law_one T) c.xr.mono (by rfl) (sa_cons (xv 3) (sa_cons (xv 4) (sa_cons (xv 5) sa_nil))) (by rfl)) (sg_tup c.calm (sgs_cons (xg 7 c) (sgs_cons (xg 8 c) sgs_nil))))
  (ss_cons (s_if (t_ne c (x_repr c (T.f_repr) (xv 8)) (x_ix c (xv 6) (x_len (T.f_len) (xv 8)))) (ss_one (s_ret se_bl)) ss_nil)
  (ss_cons (s_if (sw_or (st_not (t_any (se_isXo T.i_DoubtError (by rfl) (T.f_isinstance) (xv 7) (by rfl)))) (sw_or1 (st_not (t_any (se_isXoT T.i_ValueError Boot_ValueError (by rfl) (T.f_isinstance) (xv 7) (by rfl) (T.f_ValueError)))))).st (ss_one (s_ret se_bl)) ss_nil)
  (ss_one (s_if (t_ne c (se_call (d__law_which T) c.xr.mono (by rfl) (sa_cons (xv 7) sa_nil) (by rfl)) (se_lc finF_ok c (si_range1 se_int (by rfl) (T.f_range)) (own := [("k", 10)]) (by rfl) (by decide) (fun _ _ _ _ _ c' => (xg 10 c')) (fun _ _ _ _ _ c' => sts_nil) (fun _ _ _ _ _ c' => (x_eq c' (xv 10) (xv 3))))) (ss_one (s_ret se_bl)) ss_nil))))))))
  (ss_one (s_ret se_bl))))))
end
def hFn : List He.DefD := [⟨("_law_pen", none), "_law_pen", "_law_pen", defArgs s__law_pen, defBody s__law_pen, defScope s__law_pen, [], []⟩,
  ⟨("_law_draw", none), "_law_draw", "_law_draw", defArgs s__law_draw, defBody s__law_draw, defScope s__law_draw, [], []⟩,
  ⟨("_law_pick", none), "_law_pick", "_law_pick", defArgs s__law_pick, defBody s__law_pick, defScope s__law_pick, [], []⟩,
  ⟨("_law_single", none), "_law_single", "_law_single", defArgs s__law_single, defBody s__law_single, defScope s__law_single, [], []⟩,
  ⟨("_law_one", none), "_law_one", "_law_one", defArgs s__law_one, defBody s__law_one, defScope s__law_one, [], []⟩,
  ⟨("_law_which", none), "_law_which", "_law_which", defArgs s__law_which, defBody s__law_which, defScope s__law_which, [], []⟩,
  ⟨("law", none), "law", "law", defArgs s_law, defBody s_law, defScope s_law, [], []⟩,
  ⟨("BadText", some "__init__"), "__init__", "BadText.__init__", defArgs s_BadText_init, defBody s_BadText_init, defScope s_BadText_init, [], []⟩,
  ⟨("BadNumber", some "__init__"), "__init__", "BadNumber.__init__", defArgs s_BadNumber_init, defBody s_BadNumber_init, defScope s_BadNumber_init, [], []⟩,
  ⟨("BadName", some "__init__"), "__init__", "BadName.__init__", defArgs s_BadName_init, defBody s_BadName_init, defScope s_BadName_init, [], []⟩,
  ⟨("NoName", some "__init__"), "__init__", "NoName.__init__", defArgs s_NoName_init, defBody s_NoName_init, defScope s_NoName_init, [], []⟩,
  ⟨("TakenName", some "__init__"), "__init__", "TakenName.__init__", defArgs s_TakenName_init, defBody s_TakenName_init, defScope s_TakenName_init, [], []⟩,
  ⟨("BadNetwork", some "__init__"), "__init__", "BadNetwork.__init__", defArgs s_BadNetwork_init, defBody s_BadNetwork_init, defScope s_BadNetwork_init, [], []⟩,
  ⟨("BadPlay", some "__init__"), "__init__", "BadPlay.__init__", defArgs s_BadPlay_init, defBody s_BadPlay_init, defScope s_BadPlay_init, [], []⟩,
  ⟨("BadLengths", some "__init__"), "__init__", "BadLengths.__init__", defArgs s_BadLengths_init, defBody s_BadLengths_init, defScope s_BadLengths_init, [], []⟩,
  ⟨("BadRows", some "__init__"), "__init__", "BadRows.__init__", defArgs s_BadRows_init, defBody s_BadRows_init, defScope s_BadRows_init, [], []⟩,
  ⟨("BadTable", some "__init__"), "__init__", "BadTable.__init__", defArgs s_BadTable_init, defBody s_BadTable_init, defScope s_BadTable_init, [], []⟩,
  ⟨("BadPaper", some "__init__"), "__init__", "BadPaper.__init__", defArgs s_BadPaper_init, defBody s_BadPaper_init, defScope s_BadPaper_init, [], []⟩,
  ⟨("BadJob", some "__init__"), "__init__", "BadJob.__init__", defArgs s_BadJob_init, defBody s_BadJob_init, defScope s_BadJob_init, [], []⟩,
  ⟨("BadAnswers", some "__init__"), "__init__", "BadAnswers.__init__", defArgs s_BadAnswers_init, defBody s_BadAnswers_init, defScope s_BadAnswers_init, [], []⟩,
  ⟨("BadEntry", some "__init__"), "__init__", "BadEntry.__init__", defArgs s_BadEntry_init, defBody s_BadEntry_init, defScope s_BadEntry_init, [], []⟩,
  ⟨("NotKept", some "__init__"), "__init__", "NotKept.__init__", defArgs s_NotKept_init, defBody s_NotKept_init, defScope s_NotKept_init, [], []⟩]
def hFa : List He.Fa := [.free "ValueError", .free "int", .free "isinstance", .free "len", .free "list", .free "range", .free "repr", .glo "_law_pen", .glo "_law_draw", .glo "_law_pick", .glo "_law_single", .glo "_law_one", .glo "_law_which", .glo "law"]
def hOk (K : PySem.W.Frag) : Bool := clsB K "BadText" fs_BadText && (clsB K "BadNumber" fs_BadNumber && (clsB K "BadName" fs_BadName && (clsB K "NoName" fs_NoName && (clsB K "TakenName" fs_TakenName && (clsB K "BadNetwork" fs_BadNetwork && (clsB K "BadPlay" fs_BadPlay && (clsB K "BadLengths" fs_BadLengths && (clsB K "BadRows" fs_BadRows && (clsB K "BadTable" fs_BadTable && (clsB K "BadPaper" fs_BadPaper && (clsB K "BadJob" fs_BadJob && (clsB K "BadAnswers" fs_BadAnswers && (clsB K "BadEntry" fs_BadEntry && (clsB K "NotKept" fs_NotKept && (cls0B K "NothingToUndo" && (cls0B K "NothingToRedo" && (xosB K xo_all && (xoAtB K "network" at_network && (xoAtB K "play" at_play && (xoAtB K "lengths" at_lengths && (xoAtB K "rows" at_rows && (xoAtB K "table" at_table && (xoAtB K "paper" at_paper && (xoAtB K "job" at_job && (xoAtB K "answers" at_answers && (xoAtB K "line" at_line && (xoAtB K "name" at_name && (xoAtB K "column" at_column && (xoAtB K "what" at_what && (xoAtB K "number" at_number && (xoAtB K "promise" at_promise && (xoAtB K "witness" at_witness && (xoTabB K "BadAnswers" tab_BadAnswers && (xoTabB K "BadEntry" tab_BadEntry && (xoTabB K "BadJob" tab_BadJob && (xoTabB K "BadLengths" tab_BadLengths && (xoTabB K "BadName" tab_BadName && (xoTabB K "BadNetwork" tab_BadNetwork && (xoTabB K "BadNumber" tab_BadNumber && (xoTabB K "BadPaper" tab_BadPaper && (xoTabB K "BadPlay" tab_BadPlay && (xoTabB K "BadRows" tab_BadRows && (xoTabB K "BadTable" tab_BadTable && (xoTabB K "BadText" tab_BadText && (xoTabB K "DoubtError" tab_DoubtError && (xoTabB K "NoName" tab_NoName && (xoTabB K "NotKept" tab_NotKept && (xoTabB K "NothingToRedo" tab_NothingToRedo && (xoTabB K "NothingToUndo" tab_NothingToUndo && (xoTabB K "TakenName" tab_TakenName && (xoTabTB K "ValueError" tab_ValueError)))))))))))))))))))))))))))))))))))))))))))))))))))
abbrev R : PySem.W.OpenRow := PySem.W.OpenLaw.row PySem.Challenge.rw_timesindoubt_k00_errors
def names : List PySem.Str := (["DoubtError", "BadText", "BadNumber", "BadName", "NoName", "TakenName", "BadNetwork", "BadPlay", "BadLengths", "BadRows", "BadTable", "BadPaper", "BadJob", "BadAnswers", "BadEntry", "NotKept", "NothingToUndo", "NothingToRedo", "_law_pen", "_law_draw", "_law_pick", "_law_one", "_law_single", "_law_which"] : List PySem.Str)
abbrev hk : PySem.W.Hook := hookV 6 hFa hFn hOk
def ob : PySem.W.SharedT → He.AlD × Bool := obV 6 hFa hFn hOk
theorem run (w : World) : HandSHeadRun.RunEq R (PySem.W.view R.prog [26]) hk ob 20000 names w := by
  intro os
  kernel_rfl
theorem txt {K : PySem.W.Frag} {h : Heap} {mg : Str → Option Value} (X : K.In h) (G : h.Ns mainGlobals mg) (c : He.SaysD hFa hFn K) (k : hOk K = true) : Txt K mg := by
  simp only [hOk, Bool.and_eq_true] at k
  obtain ⟨h0, h1, h2, h3, h4, h5, h6, h7, h8, h9, h10, h11, h12, h13, h14, h15, h16, h17, h18, h19, h20, h21, h22, h23, h24, h25, h26, h27, h28, h29, h30, h31, h32, h33, h34, h35, h36, h37, h38, h39, h40, h41, h42, h43, h44, h45, h46, h47, h48, h49, h50, h51⟩ := k
  exact {
    f_ValueError := He.free_ok X G (c.fact 0),
    f_int := He.free_ok X G (c.fact 1),
    f_isinstance := He.free_ok X G (c.fact 2),
    f_len := He.free_ok X G (c.fact 3),
    f_list := He.free_ok X G (c.fact 4),
    f_range := He.free_ok X G (c.fact 5),
    f_repr := He.free_ok X G (c.fact 6),
    t__law_pen := defT_of X G (c.fact 7) (c.def_ 0),
    t__law_draw := defT_of X G (c.fact 8) (c.def_ 1),
    t__law_pick := defT_of X G (c.fact 9) (c.def_ 2),
    t__law_single := defT_of X G (c.fact 10) (c.def_ 3),
    t__law_one := defT_of X G (c.fact 11) (c.def_ 4),
    t__law_which := defT_of X G (c.fact 12) (c.def_ 5),
    t_law := defT_of X G (c.fact 13) (c.def_ 6),
    c_BadText := clsB_ok X G h0 (c.def_ 7),
    c_BadNumber := clsB_ok X G h1 (c.def_ 8),
    c_BadName := clsB_ok X G h2 (c.def_ 9),
    c_NoName := clsB_ok X G h3 (c.def_ 10),
    c_TakenName := clsB_ok X G h4 (c.def_ 11),
    c_BadNetwork := clsB_ok X G h5 (c.def_ 12),
    c_BadPlay := clsB_ok X G h6 (c.def_ 13),
    c_BadLengths := clsB_ok X G h7 (c.def_ 14),
    c_BadRows := clsB_ok X G h8 (c.def_ 15),
    c_BadTable := clsB_ok X G h9 (c.def_ 16),
    c_BadPaper := clsB_ok X G h10 (c.def_ 17),
    c_BadJob := clsB_ok X G h11 (c.def_ 18),
    c_BadAnswers := clsB_ok X G h12 (c.def_ 19),
    c_BadEntry := clsB_ok X G h13 (c.def_ 20),
    c_NotKept := clsB_ok X G h14 (c.def_ 21),
    x_NothingToUndo := cls0B_ok X G h15,
    x_NothingToRedo := cls0B_ok X G h16,
    a_network := xoAtB_ok X G h17 h18,
    a_play := xoAtB_ok X G h17 h19,
    a_lengths := xoAtB_ok X G h17 h20,
    a_rows := xoAtB_ok X G h17 h21,
    a_table := xoAtB_ok X G h17 h22,
    a_paper := xoAtB_ok X G h17 h23,
    a_job := xoAtB_ok X G h17 h24,
    a_answers := xoAtB_ok X G h17 h25,
    a_line := xoAtB_ok X G h17 h26,
    a_name := xoAtB_ok X G h17 h27,
    a_column := xoAtB_ok X G h17 h28,
    a_what := xoAtB_ok X G h17 h29,
    a_number := xoAtB_ok X G h17 h30,
    a_promise := xoAtB_ok X G h17 h31,
    a_witness := xoAtB_ok X G h17 h32,
    i_BadAnswers := xoTabB_ok X G h17 h33,
    i_BadEntry := xoTabB_ok X G h17 h34,
    i_BadJob := xoTabB_ok X G h17 h35,
    i_BadLengths := xoTabB_ok X G h17 h36,
    i_BadName := xoTabB_ok X G h17 h37,
    i_BadNetwork := xoTabB_ok X G h17 h38,
    i_BadNumber := xoTabB_ok X G h17 h39,
    i_BadPaper := xoTabB_ok X G h17 h40,
    i_BadPlay := xoTabB_ok X G h17 h41,
    i_BadRows := xoTabB_ok X G h17 h42,
    i_BadTable := xoTabB_ok X G h17 h43,
    i_BadText := xoTabB_ok X G h17 h44,
    i_DoubtError := xoTabB_ok X G h17 h45,
    i_NoName := xoTabB_ok X G h17 h46,
    i_NotKept := xoTabB_ok X G h17 h47,
    i_NothingToRedo := xoTabB_ok X G h17 h48,
    i_NothingToUndo := xoTabB_ok X G h17 h49,
    i_TakenName := xoTabB_ok X G h17 h50,
    i_ValueError := xoTabTB_ok X G h17 h51 }
theorem holds (math : ∀ ns : List Int, ns.length ≤ 63 → ∃ st, F_law [.fz (ns.map .int)] [] = .ok (.bl true) st) : PySem.Challenge.rw_timesindoubt_k00_errors.Holds := by
  w_on; o_law
  refine HandSHeadRun.head_any (r := R) (q := PySem.W.view R.prog [26]) (H := hk) (ob := ob) (M := 20000) (loose := names) (d := HandSHeadRun.topDef R.prog 26) (kwd := []) obV_eq
    (by kernel_rfl) (fun s => by kernel_rfl) run (by kernel_rfl) (by kernel_rfl) (by kernel_rfl) (by rfl) (by first | assumption | decide +kernel) (by decide +kernel) ⟨rfl, rfl, rfl, rfl, rfl, by decide +kernel⟩ ?hw ?hc
  case hw => w_witness2
  case hc =>
    refine walk_ofV (l := PySem.Challenge.rw_timesindoubt_k00_errors) (n := 63) (k := 5) (x := "script") rfl (by decide) (by kernel_rfl) ⟨rfl, by decide, by decide⟩ ?F
    intro w mg fa h Y G hmg0
    obtain ⟨K, KX, c, k⟩ := Y
    have hmg : mg ("law" : PySem.Str) = some (.ref fa) := by
      have e : (HandSHeadRun.topDef R.prog 26).name = ("law" : PySem.Str) := by kernel_rfl
      rw [← e]
      exact hmg0
    have T := txt KX G c k
    exact law_ofD (x := "script") (T.t_law) hmg (F := F_law) KX (fun _ _ _ _ _ _ us hl => match us, hl with | [_], _ => rfl) math fun base => d_law (P := (PySem.Challenge.rw_timesindoubt_k00_errors).prog) (w := w) (base := base) T
end G00
set_option maxHeartbeats 4000000
namespace VI
open PySem PySem.Spec PyProof.Rows L2

/-! ### running a reading -/
section
variable (ρ : Env) (st : Mem) (m n : ME) (ms : List ME) (f : F2) (g : F1) (h : FL) (s u : MS) (a b : MB) (i j : Nat) (d : D)
@[simp] theorem ap_var (h : ρ[i]? = some (some d)) : mVar i ρ st = .ok d st := by simp only [mVar, h]
@[simp] theorem ap_c : mC d ρ st = .ok d st := rfl
@[simp] theorem ap_m1 : m1 g m ρ st = (m ρ st).bind g := rfl
@[simp] theorem ap_m2 : m2 f m n ρ st = (m ρ st).bind fun d st1 => (n ρ st1).bind fun e st2 => f d e st2 := rfl
@[simp] theorem ap_mF : mF h ms ρ st = (mArgs ms ρ st).bind h := rfl
@[simp] theorem ap_args0 : mArgs [] ρ st = .ok [] st := rfl
@[simp] theorem ap_args1 : mArgs (m :: ms) ρ st = (m ρ st).bind fun d st1 => (mArgs ms ρ st1).bind fun ds st2 => .ok (d :: ds) st2 := rfl
@[simp] theorem ap_f1 : f1 g [d] st = g d st := rfl
@[simp] theorem ap_f2 (e : D) : f2 f [d, e] st = f d e st := rfl
@[simp] theorem ap_seq : sSeq s u ρ st = (s ρ st).seq u := rfl
@[simp] theorem ap_nil : sNil ρ st = .nx ρ st := rfl
@[simp] theorem ap_set : sSet i m ρ st = (m ρ st).toS ρ fun d st1 => .nx (ρ.set i (some d)) st1 := rfl
@[simp] theorem ap_if : sIf a s u ρ st = (a ρ st).toS ρ fun b st1 => if b = true then s ρ st1 else u ρ st1 := rfl
@[simp] theorem ap_ret : sRet m ρ st = (m ρ st).toS ρ fun d st1 => .rt d st1 := rfl
@[simp] theorem ap_drop : sDrop m ρ st = (m ρ st).toS ρ fun _ st1 => .nx ρ st1 := rfl
@[simp] theorem ap_asB : asB m ρ st = (m ρ st).bind VI.resB := rfl
@[simp] theorem ap_asT : asT m ρ st = (m ρ st).bind resT := rfl
@[simp] theorem ap_resB (k : Bool) : VI.resB (.bl k) st = .ok k st := rfl
@[simp] theorem ap_resT (k : Bool) : resT (.bl k) st = .ok k st := rfl
@[simp] theorem ap_and : mAnd a b ρ st = (a ρ st).bind fun x st1 => if x = true then b ρ st1 else .ok false st1 := rfl
@[simp] theorem ap_or : mOr a b ρ st = (a ρ st).bind fun x st1 => if x = true then .ok true st1 else b ρ st1 := rfl
@[simp] theorem ap_not : mNot a ρ st = (a ρ st).bind fun x st1 => .ok (!x) st1 := rfl
@[simp] theorem ap_tup : mTup ms ρ st = (mArgs ms ρ st).bind fun ds st1 => .ok (.tup ds) st1 := rfl
@[simp] theorem ap_lst (mk : List D → Mem → Res D) : mLst mk ms ρ st = (mArgs ms ρ st).bind mk := rfl
@[simp] theorem ap_asg (gg : MG) : sAsg m gg ρ st = (m ρ st).toS ρ fun d st1 => match gg d ρ st1 with
  | .nx ρ1 st2 => .nx ρ1 st2
  | _ => .bad := rfl
@[simp] theorem ap_gSub : gSubD m n d ρ st = (match m ρ st with
  | .ok o st1 => match n ρ st1 with
    | .ok i st2 => match setD o i d st2 with
      | some st3 => .nx ρ st3
      | none => .bad
    | _ => .bad
  | _ => .bad) := rfl
@[simp] theorem ap_gNm : gNm i d ρ st = .nx (ρ.set i (some d)) st := rfl
@[simp] theorem ap_par : sPar i j m n ρ st = (m ρ st).toS ρ fun d st1 => (n ρ st1).toS ρ fun e st2 => .nx ((ρ.set i (some d)).set j (some e)) st2 := rfl
@[simp] theorem ap_mIf : mIf a m n ρ st = (a ρ st).bind fun b st1 => if b = true then m ρ st1 else n ρ st1 := rfl
@[simp] theorem ap_mkF (ds : List D) : mkF ds st = .ok (.lst ds) st := rfl
@[simp] theorem ap_mkN (ds : List D) : mkN ds st = .ok (.loc st.length) (st ++ [.lst ds]) := rfl
end
/-- what a def hands back -/
def endS (r : RS) : Res D := match r with
  | .nx _ st' => .ok .non st'
  | .rt d st' => .ok d st'
  | .exc e _ st' => .exc e st'
  | _ => .bad
@[simp] theorem endS_nx (ρ : Env) (st : Mem) : endS (.nx ρ st) = .ok .non st := rfl
@[simp] theorem endS_rt (d : D) (st : Mem) : endS (.rt d st) = .ok d st := rfl
@[simp] theorem endS_exc (e : Ex) (ρ : Env) (st : Mem) : endS (.exc e ρ st) = .exc e st := rfl
theorem bodyF_eq (m : MS) (n : Nat) (ds : List D) (st : Mem) : bodyF m n ds st = endS (m (startE n ds) st) := rfl

/-! ### the pen -/
structure Pen where
  cells : List Int
  a : Int
  dg : Int
  ct : Int
  fold : Int
def penK (p : Pen) : List (Key × D) := [(.inr "cells", .lst (p.cells.map .int)), (.inr "at", .int p.a), (.inr "digits", .int p.dg), (.inr "count", .int p.ct), (.inr "fold", .int p.fold)]
def penC (p : Pen) : Cell := .dK (penK p)
section
variable {n : Nat} {st : Mem} {p : Pen}
theorem pen_v1 (p : Pen) : valD (penK p) (.inr "cells") = some (.lst (p.cells.map .int)) := rfl
theorem pen_v2 (p : Pen) : valD (penK p) (.inr "at") = some (.int p.a) := rfl
theorem pen_v3 (p : Pen) : valD (penK p) (.inr "digits") = some (.int p.dg) := rfl
theorem pen_v4 (p : Pen) : valD (penK p) (.inr "count") = some (.int p.ct) := rfl
theorem pen_v5 (p : Pen) : valD (penK p) (.inr "fold") = some (.int p.fold) := rfl
theorem pen_p2 (p : Pen) (v : Int) : putD (penK p) (.inr "at") (.int v) = penK { p with a := v } := rfl
theorem pen_p3 (p : Pen) (v : Int) : putD (penK p) (.inr "digits") (.int v) = penK { p with dg := v } := rfl
theorem pen_p4 (p : Pen) (v : Int) : putD (penK p) (.inr "count") (.int v) = penK { p with ct := v } := rfl
theorem pen_p5 (p : Pen) (v : Int) : putD (penK p) (.inr "fold") (.int v) = penK { p with fold := v } := rfl
theorem ix_pen (h : st[n]? = some (penC p)) {k : Str} {v : D} (e : valD (penK p) (.inr k) = some v) : ixD (.loc n) (.str k) st = .ok v st := by
  unfold ixD
  simp only [seqD, h, penC, getD', keyD, Option.map_some, e]
theorem set_pen (h : st[n]? = some (penC p)) {k : Str} {v : D} {q : Pen} (e : putD (penK p) (.inr k) v = penK q) : setD (.loc n) (.str k) v st = some (st.set n (penC q)) := by
  have hl : (penK p).length < LINE := by show 5 < LINE; decide
  unfold setD
  simp only [h, penC, keyD, Option.map_some, e, if_pos hl]
theorem pen_at (h : st[n]? = some (penC p)) (q : Pen) : (st.set n (penC q))[n]? = some (penC q) := by
  have hl : n < st.length := (List.getElem?_eq_some_iff.mp h).1
  simp [hl]
end
/-- what a pen must be -/
structure PenOk (B M : Int) (p : Pen) : Prop where
  a0 : 0 ≤ p.a
  dg : 0 ≤ p.dg
  c0 : 0 ≤ p.ct
  cB : p.ct ≤ B
  f0 : 0 ≤ p.fold
  fM : p.fold ≤ M
/-! ### running -/
section
variable {ρ : Env} {st st' : Mem} {d e : D} {m n : ME} {f : F2} {g : F1}
theorem r_var {i : Nat} (h : ρ[i]? = some (some d)) : mVar i ρ st = .ok d st := by simp only [mVar, h]
theorem r_c : mC d ρ st = .ok d st := rfl
end
section
variable {n : Nat} {st : Mem} {q : Pen}
theorem ixS (hl : n < st.length) {k : Str} {v : D} (e : valD (penK q) (.inr k) = some v) : ixD (.loc n) (.str k) (st.set n (penC q)) = .ok v (st.set n (penC q)) := ix_pen (by simp [hl]) e
theorem ixS_cells (hl : n < st.length) : ixD (.loc n) (.str "cells") (st.set n (penC q)) = .ok (.lst (q.cells.map .int)) (st.set n (penC q)) := ixS hl rfl
theorem ixS_at (hl : n < st.length) : ixD (.loc n) (.str "at") (st.set n (penC q)) = .ok (.int q.a) (st.set n (penC q)) := ixS hl rfl
theorem ixS_digits (hl : n < st.length) : ixD (.loc n) (.str "digits") (st.set n (penC q)) = .ok (.int q.dg) (st.set n (penC q)) := ixS hl rfl
theorem ixS_count (hl : n < st.length) : ixD (.loc n) (.str "count") (st.set n (penC q)) = .ok (.int q.ct) (st.set n (penC q)) := ixS hl rfl
theorem ixS_fold (hl : n < st.length) : ixD (.loc n) (.str "fold") (st.set n (penC q)) = .ok (.int q.fold) (st.set n (penC q)) := ixS hl rfl
theorem setS (hl : n < st.length) {k : Str} {v : D} {r : Pen} (e : putD (penK q) (.inr k) v = penK r) : setD (.loc n) (.str k) v (st.set n (penC q)) = some (st.set n (penC r)) := by
  rw [set_pen (by simp [hl]) e, List.set_set]
theorem setS_at (hl : n < st.length) {v : Int} : setD (.loc n) (.str "at") (.int v) (st.set n (penC q)) = some (st.set n (penC { q with a := v })) := setS hl rfl
theorem setS_digits (hl : n < st.length) {v : Int} : setD (.loc n) (.str "digits") (.int v) (st.set n (penC q)) = some (st.set n (penC { q with dg := v })) := setS hl rfl
theorem setS_count (hl : n < st.length) {v : Int} : setD (.loc n) (.str "count") (.int v) (st.set n (penC q)) = some (st.set n (penC { q with ct := v })) := setS hl rfl
theorem setS_fold (hl : n < st.length) {v : Int} : setD (.loc n) (.str "fold") (.int v) (st.set n (penC q)) = some (st.set n (penC { q with fold := v })) := setS hl rfl
theorem set_self (h : st[n]? = some (penC q)) : st.set n (penC q) = st := by
  obtain ⟨hl, e⟩ := List.getElem?_eq_some_iff.mp h
  rw [← e]; exact List.set_getElem_self hl
/-- the i-th cell -/
theorem ix_ints {ns : List Int} {i : Int} (h0 : 0 ≤ i) (h1 : i < ns.length) : ∃ c, ns[i.toNat]? = some c ∧ ∀ st : Mem, ixD (.lst (ns.map .int)) (.int i) st = .ok (.int c) st := by
  have hi : i.toNat < ns.length := by omega
  refine ⟨ns[i.toNat], by simp [hi], fun st => ?_⟩
  unfold ixD
  simp only [seqD, atI, ixN, List.length_map, if_pos h0, if_pos h1, Option.bind_some]
  simp [hi]
end
section
variable {d e : D} {st : Mem} {i j : Int}
theorem addD_int : addD (.int i) (.int j) st = .ok (.int (i + j)) st := rfl
theorem subD_int : subD (.int i) (.int j) st = .ok (.int (i - j)) st := rfl
theorem mulD_int {mk : List D → Mem → Res D} (h : small64 i = true ∨ small64 j = true) : mulD mk (.int i) (.int j) st = .ok (.int (i * j)) st := by
  unfold mulD
  rcases h with h | h <;> simp [h]
theorem modD_int (h : 0 < j) : modD (.int i) (.int j) st = .ok (.int (i % j)) st := by simp [modD, h]
theorem fdivD_int (h : 0 < j) (h2 : j < 1073741824) : fdivD (.int i) (.int j) st = .ok (.int (i / j)) st := by simp [fdivD, h, h2]
theorem powD_int (h : 0 ≤ j) (h2 : j ≤ 1000) (h3 : small64 i = true) : powD (.int i) (.int j) st = .ok (.int (i ^ j.toNat)) st := by simp [powD, h, h2, h3]
theorem eqD_int : eqD (.int i) (.int j) st = .ok (.bl (i == j)) st := by simp [eqD, topD, okD, eqvD]
theorem ltD_int : ltD (.int i) (.int j) st = .ok (.bl (decide (i < j))) st := rfl
theorem gtD_int : gtD (.int i) (.int j) st = .ok (.bl (decide (j < i))) st := rfl
theorem geD_int : geD (.int i) (.int j) st = .ok (.bl (decide (j ≤ i))) st := rfl
theorem intD_int : intD (.int i) st = .ok (.int i) st := rfl
theorem small64_of (h : -18446744073709551616 < i) (h2 : i < 18446744073709551616) : small64 i = true := by simp [small64, h, h2]
theorem lenD_lst {xs : List D} (h : xs.length ≤ LINE) : lenD (.lst xs) st = .ok (.int (xs.length : Nat)) st := by unfold lenD; simp [seqD, h]
end
theorem lenS_cells {st : Mem} {q : Pen} : lenD (.lst (q.cells.map .int)) st = .ok (.int (q.cells.length : Nat)) st := by
  unfold lenD; simp [seqD]
/-! ### loops, comprehensions -/
theorem forL_inv {ds : List D} {f : D → Env → Mem → RS} {I : Nat → Env → Mem → Prop} (hs : ∀ i d ρ st, ds[i]? = some d → I i ρ st → ∃ ρ' st', (f d ρ st = .nx ρ' st' ∨ f d ρ st = .ct ρ' st') ∧ I (i + 1) ρ' st') {ρ : Env} {st : Mem} (h0 : I 0 ρ st) :
    ∃ ρ' st', forL ds f ρ st = .nx ρ' st' ∧ I ds.length ρ' st' := by
  have key : ∀ (es : List D) (k : Nat) (ρ : Env) (st : Mem), ds.drop k = es → I k ρ st → ∃ ρ' st', forL es f ρ st = .nx ρ' st' ∧ I (k + es.length) ρ' st' := by
    intro es
    induction es with
    | nil => intro k ρ st e h; exact ⟨ρ, st, rfl, h⟩
    | cons d es ih =>
      intro k ρ st e h
      have hd : ds[k]? = some d := by
        have := congrArg (fun l : List D => l[0]?) e
        simpa using this
      obtain ⟨ρ1, st1, hf, h1⟩ := hs k d ρ st hd h
      have e1 : ds.drop (k + 1) = es := by
        have := congrArg List.tail e
        simpa using this
      obtain ⟨ρ2, st2, h2, h3⟩ := ih (k + 1) ρ1 st1 e1 h1
      refine ⟨ρ2, st2, ?_, by rw [List.length_cons, show k + (es.length + 1) = k + 1 + es.length by omega]; exact h3⟩
      rcases hf with hf | hf <;> simp only [forL, hf, h2]
  obtain ⟨ρ', st', h1, h2⟩ := key ds 0 ρ st (by simp) h0
  exact ⟨ρ', st', h1, by simpa using h2⟩
theorem lcL_pure {st : Mem} {f : D → Mem → Res (Option D)} {F : D → Option D} : ∀ {ds : List D} {acc : List D}, (∀ d ∈ ds, ∀ acc, f d (st ++ [.lst acc]) = .ok (F d) (st ++ [.lst acc])) → acc.length + ds.length ≤ 16000000 →
    lcL st.length ds f (st ++ [.lst acc]) = .ok () (st ++ [.lst (acc ++ ds.filterMap F)])
  | [], acc, _, _ => by simp [lcL]
  | d :: ds, acc, h, hl => by
    have e := h d List.mem_cons_self acc
    have ih : ∀ acc', acc'.length + ds.length ≤ 16000000 → lcL st.length ds f (st ++ [.lst acc']) = .ok () (st ++ [.lst (acc' ++ ds.filterMap F)]) := fun acc' hl' => lcL_pure (fun d hd acc => h d (List.mem_cons_of_mem _ hd) acc) hl'
    simp only [List.length_cons] at hl
    simp only [lcL, e, Res.ok_bind]
    cases q : F d with
    | none =>
      simp only [pushL, Res.ok_bind]
      rw [ih acc (by omega)]
      simp [q]
    | some y =>
      have g : (st ++ [Cell.lst acc])[st.length]? = some (.lst acc) := by simp
      have hL : acc.length < LINE := by show acc.length < 16777216; omega
      simp only [pushL, g, if_pos hL, Res.ok_bind]
      have e2 : (st ++ [Cell.lst acc]).set st.length (.lst (acc ++ [y])) = st ++ [.lst (acc ++ [y])] := by simp
      rw [e2, ih (acc ++ [y]) (by simp; omega)]
      simp [q]
section
variable {mi : ML} {g : MG} {t : MB} {m : ME} {vs : List Nat} {ρ : Env} {st : Mem} {ds : List D} {F : D → Option D}
theorem belowL_mem {n : Nat} : ∀ {ds : List D}, (∀ d ∈ ds, belowD n d = true) → belowL n ds = true
  | [], _ => rfl
  | d :: ds, h => by
    simp only [belowL, Bool.and_eq_true]
    exact ⟨h d List.mem_cons_self, belowL_mem fun d hd => h d (List.mem_cons_of_mem _ hd)⟩
/-- a comprehension that changes no memory -/
theorem lc_pure (hi : mi ρ st = .ok ds st) (hs : ∀ d ∈ ds, ∀ acc, stepL g t m vs ρ d (st ++ [.lst acc]) = .ok (F d) (st ++ [.lst acc])) (hl : ds.length ≤ 16000000) (hb : ∀ d ∈ ds, ∀ y, F d = some y → belowD st.length y = true) :
    mLC finF mi g t m vs ρ st = .ok (.lst (ds.filterMap F)) st := by
  unfold mLC
  rw [hi, Res.ok_bind, lcL_pure hs (by simpa using hl), Res.ok_bind]
  unfold finF
  have g : (st ++ [Cell.lst ([] ++ ds.filterMap F)])[st.length]? = some (.lst (ds.filterMap F)) := by simp
  have b : belowL st.length (ds.filterMap F) = true := belowL_mem fun y hy => by
    obtain ⟨d, hd, e⟩ := List.mem_filterMap.mp hy
    exact hb d hd y e
  rw [g]
  simp [b, clean]
end
end VI
set_option maxHeartbeats 4000000
namespace G00
open PySem PySem.Spec PyProof.Rows L2 VI

section
variable {st : Mem} {n : Nat} {many B : Int}
/-- the last part of a draw -/
theorem draw_end (hl : n < st.length) (q : Pen) (ok : PenOk B 2147483543 q) (hB : B ≤ 1000000) (h1 : 1 ≤ many) (h2 : many < 1073741824) (x y z : Option D) :
    ∃ r q', endS (q__law_draw_9 [some (.loc n), some (.int many), x, y, z] (st.set n (penC q))) = .ok (.int r) (st.set n (penC q')) ∧ 0 ≤ r ∧ r < many ∧ PenOk B 2147483543 q' ∧ q'.cells = q.cells := by
  obtain ⟨c1, c2, c3, c4, c5, c6⟩ := ok
  have s98 : VI.small64 9817 = true := by decide
  by_cases hd : 0 < q.dg
  · refine ⟨q.dg % many, { q with dg := q.dg / many }, ?_, Int.emod_nonneg _ (by omega), Int.emod_lt_of_pos _ (by omega), ⟨c1, Int.ediv_nonneg c2 (by omega), c3, c4, c5, c6⟩, rfl⟩
    simp [q__law_draw_9, q__law_draw_11, q__law_draw_12, q__law_draw_13, q__law_draw_14, mVar, ixS_digits hl, gtD_int, hd, intD_int, modD_int (show 0 < many by omega), fdivD_int (show 0 < many by omega) h2, setS_digits hl]
  · have sb : VI.small64 (q.fold + q.ct * 9817 + 229) = true := small64_of (by omega) (by omega)
    refine ⟨((q.fold + q.ct * 9817 + 229) ^ 23 % 2305843009213693951) / 128 % many, q, ?_, Int.emod_nonneg _ (by omega), Int.emod_lt_of_pos _ (by omega), ⟨c1, c2, c3, c4, c5, c6⟩, rfl⟩
    simp [q__law_draw_9, q__law_draw_11, q__law_draw_12, q__law_draw_13, q__law_draw_14, mVar, ixS_digits hl, ixS_fold hl, ixS_count hl, gtD_int, hd, intD_int, addD_int, mulD_int (mk := mkF) (i := q.ct) (.inr s98), powD_int (j := 23) (by decide) (by decide) sb, modD_int (show (0 : Int) < 2305843009213693951 by decide), fdivD_int (show (0 : Int) < 128 by decide) (by decide), modD_int (show 0 < many by omega)]
theorem draw_ok {p : Pen} (h : st[n]? = some (penC p)) (ok : PenOk B 2147483543 p) (hB : B ≤ 999999) (h1 : 1 ≤ many) (h2 : many < 1073741824) :
    ∃ r q, F__law_draw [.loc n, .int many] st = .ok (.int r) (st.set n (penC q)) ∧ 0 ≤ r ∧ r < many ∧ PenOk (B + 1) 2147483543 q ∧ q.cells = p.cells := by
  have hl : n < st.length := (List.getElem?_eq_some_iff.mp h).1
  obtain ⟨b1, b2, b3, b4, b5, b6⟩ := ok
  have e0 : st = st.set n (penC p) := (set_self h).symm
  have s10 : VI.small64 10 = true := by decide
  have sM : VI.small64 73673 = true := by decide
  have p18 : (10 : Int) ^ (18 : Nat) = 1000000000000000000 := by decide
  have key : ∃ q x, F__law_draw [.loc n, .int many] st = endS (q__law_draw_9 [some (.loc n), some (.int many), x, none, none] (st.set n (penC q))) ∧ PenOk (B + 1) 2147483543 q ∧ q.cells = p.cells := by
    rw [e0]
    simp only [List.set_set]
    by_cases hc : p.dg = 0 ∧ p.a < p.cells.length
    · obtain ⟨c, hc1, hc2⟩ := ix_ints (ns := p.cells) b1 hc.2
      by_cases hg : 1000000000000000000 ≤ c
      · refine ⟨{ p with ct := p.ct + 1, a := p.a + 1, dg := c - 1000000000000000000 }, some (.int c), ?_, ⟨by show 0 ≤ p.a + 1; omega, by show 0 ≤ c - 1000000000000000000; omega, by show 0 ≤ p.ct + 1; omega, by show p.ct + 1 ≤ B + 1; omega, b5, b6⟩, rfl⟩
        simp [F__law_draw, bodyF_eq, m__law_draw, q__law_draw_2, q__law_draw_4, q__law_draw_5, startE, List.replicate, mVar, ixS_count hl, ixS_digits hl, ixS_at hl, ixS_cells hl, ixS_fold hl, addD_int, setS_count hl, setS_at hl, setS_digits hl, eqD_int, hc.1, hc.2, ltD_int, lenS_cells, hc2, powD_int (i := 10) (j := 18) (by decide) (by decide) s10, p18, geD_int, hg, subD_int]
      · refine ⟨{ p with ct := p.ct + 1, a := p.a + 1, fold := (p.fold * 73673 + c) % 2147483543 }, some (.int c), ?_, ⟨by show 0 ≤ p.a + 1; omega, b2, by show 0 ≤ p.ct + 1; omega, by show p.ct + 1 ≤ B + 1; omega, Int.emod_nonneg _ (by decide), Int.le_of_lt (Int.emod_lt_of_pos _ (by decide))⟩, rfl⟩
        simp [F__law_draw, bodyF_eq, m__law_draw, q__law_draw_2, q__law_draw_4, q__law_draw_5, startE, List.replicate, mVar, ixS_count hl, ixS_digits hl, ixS_at hl, ixS_cells hl, ixS_fold hl, addD_int, setS_count hl, setS_at hl, setS_fold hl, eqD_int, hc.1, hc.2, ltD_int, lenS_cells, hc2, powD_int (i := 10) (j := 18) (by decide) (by decide) s10, p18, geD_int, hg, mulD_int (mk := mkF) (i := p.fold) (.inr sM), intD_int, modD_int (show (0 : Int) < 2147483543 by decide)]
    · refine ⟨{ p with ct := p.ct + 1 }, none, ?_, ⟨b1, b2, by show 0 ≤ p.ct + 1; omega, by show p.ct + 1 ≤ B + 1; omega, b5, b6⟩, rfl⟩
      by_cases hd : p.dg = 0
      · have ha : ¬ p.a < p.cells.length := fun z => hc ⟨hd, z⟩
        simp [F__law_draw, bodyF_eq, m__law_draw, q__law_draw_2, q__law_draw_4, q__law_draw_5, startE, List.replicate, mVar, ixS_count hl, ixS_digits hl, ixS_at hl, ixS_cells hl, addD_int, setS_count hl, eqD_int, hd, ha, ltD_int, lenS_cells]
      · simp [F__law_draw, bodyF_eq, m__law_draw, q__law_draw_2, q__law_draw_4, q__law_draw_5, startE, List.replicate, mVar, ixS_count hl, ixS_digits hl, addD_int, setS_count hl, eqD_int, hd]
  obtain ⟨q, x, e1, ok2, ec⟩ := key
  obtain ⟨r, q', e2, r0, r1, ok3, ec2⟩ := draw_end hl q ok2 (by omega) h1 h2 x none none
  exact ⟨r, q', e1.trans e2, r0, r1, ok3, ec2.trans ec⟩
end

/-! ### the pen made -/
theorem pen_ok (ns : List Int) : ∃ p, F__law_pen [.fz (ns.map .int)] [] = .ok (.loc 0) [penC p] ∧ PenOk 0 2147483543 p := by
  have loop : ∀ (l : List Int) (f : Int) (x y : Option D), 0 ≤ f → f ≤ 1000000033 → ∃ f' y', forL (l.map .int) (stepF (gNm 2) b__law_pen_2) [x, some (.int f), y] [] = .nx [x, some (.int f'), y'] [] ∧ 0 ≤ f' ∧ f' ≤ 1000000033 := by
    intro l
    induction l with
    | nil => intro f x y h0 h1; exact ⟨f, y, rfl, h0, h1⟩
    | cons c l ih =>
      intro f x y h0 h1
      have s229 : VI.small64 229 = true := by decide
      obtain ⟨f', y', e, b0, b1⟩ := ih ((f * 229 + c) % 1000000033) x (some (.int c)) (Int.emod_nonneg _ (by decide)) (Int.le_of_lt (Int.emod_lt_of_pos _ (by decide)))
      refine ⟨f', y', ?_, b0, b1⟩
      rw [← e]
      simp [forL, stepF, b__law_pen_2, mVar, mulD_int (mk := mkF) (i := f) (.inr s229), addD_int, intD_int, modD_int (show (0 : Int) < 1000000033 by decide)]
  obtain ⟨f, y, e, h0, h1⟩ := loop ns 0 (some (.fz (ns.map .int))) none (by decide) (by decide)
  refine ⟨⟨ns, 0, 0, 0, f⟩, ?_, ⟨by show (0 : Int) ≤ 0; omega, by show (0 : Int) ≤ 0; omega, by show (0 : Int) ≤ 0; omega, by show (0 : Int) ≤ 0; omega, h0, by show f ≤ 2147483543; omega⟩⟩
  have e2 : sFor (mIt (mVar 0)) (gNm 2) b__law_pen_2 [some (.fz (ns.map .int)), some (.int 0), none] [] = .nx [some (.fz (ns.map .int)), some (.int f), y] [] := by
    rw [← e]
    simp [sFor, mIt, mVar, frzD]
  have e3 : listD mkF (.fz (ns.map .int)) [Cell.dK []] = .ok (.lst (ns.map .int)) [Cell.dK []] := by simp [listD, seqD]
  simp [F__law_pen, bodyF_eq, m__law_pen, startE, List.replicate, q__law_pen_2, e2, q__law_pen_4, mDisp, mPairs, mVar, e3, keyPs, keyD]
  rfl

/-! ### a pick -/
section
variable {st : Mem} {n m : Nat} {B : Int} {p : Pen} {xs : List D}
theorem pick_ok (h : st[n]? = some (penC p)) (hm : st[m]? = some (.lst xs)) (ok : PenOk B 2147483543 p) (hB : B ≤ 999999) (h1 : 1 ≤ xs.length) (h2 : xs.length ≤ 1000) :
    ∃ d q, F__law_pick [.loc n, .loc m] st = .ok d (st.set n (penC q)) ∧ d ∈ xs ∧ PenOk (B + 1) 2147483543 q := by
  obtain ⟨r, q, e, r0, r1, ok2, _⟩ := draw_ok (many := (xs.length : Nat)) h ok hB (by omega) (by omega)
  have hl : n < st.length := (List.getElem?_eq_some_iff.mp h).1
  have hmn : n ≠ m := fun z => by subst z; rw [h] at hm; cases hm
  have hm2 : (st.set n (penC q))[m]? = some (.lst xs) := by rw [List.getElem?_set_ne hmn]; exact hm
  have hr : r.toNat < xs.length := by omega
  refine ⟨xs[r.toNat], q, ?_, List.getElem_mem _, ok2⟩
  have el : lenD (.loc m) st = .ok (.int (xs.length : Nat)) st := by simp [lenD, hm]
  have ei : ixD (.loc m) (.int r) (st.set n (penC q)) = .ok xs[r.toNat] (st.set n (penC q)) := by
    unfold ixD
    simp only [seqD, hm2, atI, ixN, if_pos r0, if_pos r1, Option.bind_some]
    simp [hr]
  simp [F__law_pick, bodyF_eq, m__law_pick, startE, List.replicate, mVar, el, e, ei]
end

/-! ### one of each kind -/
def names17 : List Str := ["BadName", "NoName", "TakenName", "BadNetwork", "BadPlay", "BadLengths", "BadRows", "BadTable", "BadPaper", "BadJob", "BadAnswers", "BadEntry", "BadText", "BadNumber", "NotKept", "NothingToUndo", "NothingToRedo"]
def nm17 (k : Nat) : Str := names17.getD k ""
def many17 (k : Nat) : Nat := if k < 12 then 1 else if k < 15 then 2 else 0
theorem at0 {st : Mem} {c : Cell} : (st ++ [c])[st.length]? = some c := by simp
theorem one_ok (k : Nat) (hk : k < 17) (a b : D) (st : Mem) : ∃ m fs st', F__law_one [.int k, a, b] st = .ok (.tup [.loc m, .tup ([a, b].take (many17 k))]) (st ++ st') ∧ (st ++ st')[m]? = some (.xo (nm17 k) fs) := by
  have c : k = 0 ∨ k = 1 ∨ k = 2 ∨ k = 3 ∨ k = 4 ∨ k = 5 ∨ k = 6 ∨ k = 7 ∨ k = 8 ∨ k = 9 ∨ k = 10 ∨ k = 11 ∨ k = 12 ∨ k = 13 ∨ k = 14 ∨ k = 15 ∨ k = 16 := by omega
  rcases c with rfl | rfl | rfl | rfl | rfl | rfl | rfl | rfl | rfl | rfl | rfl | rfl | rfl | rfl | rfl | rfl | rfl
  · refine ⟨st.length, [("name", a)], [.xo "BadName" [("name", a)], .xo "NoName" [("name", a)], .xo "TakenName" [("name", a)]], ?_, by simp [nm17, names17]⟩
    simp [F__law_one, bodyF_eq, m__law_one, startE, List.replicate, mVar, ltD_int, eqD_int, mMk, mMk0, attrX, many17, F__law_single, m__law_single, ixD, seqD, atI, ixN, q__law_single_3, q__law_single_6, q__law_single_9, q__law_single_12, q__law_single_15, q__law_single_18, q__law_single_21, q__law_single_24, q__law_single_26, q__law_single_25, q__law_single_22, q__law_single_19, q__law_single_16, q__law_single_13, q__law_single_10, q__law_single_7, q__law_single_4, q__law_one_3, q__law_one_8, q__law_one_11, q__law_one_14, q__law_one_15, q__law_one_12, q__law_one_9, q__law_one_6, q__law_one_4, fs_BadName, fs_NoName, fs_TakenName, at_name]
  · refine ⟨st.length + 1, [("name", a)], [.xo "BadName" [("name", a)], .xo "NoName" [("name", a)], .xo "TakenName" [("name", a)]], ?_, by simp [nm17, names17]⟩
    simp [F__law_one, bodyF_eq, m__law_one, startE, List.replicate, mVar, ltD_int, eqD_int, mMk, mMk0, attrX, many17, F__law_single, m__law_single, ixD, seqD, atI, ixN, q__law_single_3, q__law_single_6, q__law_single_9, q__law_single_12, q__law_single_15, q__law_single_18, q__law_single_21, q__law_single_24, q__law_single_26, q__law_single_25, q__law_single_22, q__law_single_19, q__law_single_16, q__law_single_13, q__law_single_10, q__law_single_7, q__law_single_4, q__law_one_3, q__law_one_8, q__law_one_11, q__law_one_14, q__law_one_15, q__law_one_12, q__law_one_9, q__law_one_6, q__law_one_4, fs_BadName, fs_NoName, fs_TakenName, at_name]
  · refine ⟨st.length + 2, [("name", a)], [.xo "BadName" [("name", a)], .xo "NoName" [("name", a)], .xo "TakenName" [("name", a)]], ?_, by simp [nm17, names17]⟩
    simp [Nat.add_assoc, F__law_one, bodyF_eq, m__law_one, startE, List.replicate, mVar, ltD_int, eqD_int, mMk, mMk0, attrX, many17, F__law_single, m__law_single, ixD, seqD, atI, ixN, q__law_single_3, q__law_single_6, q__law_single_9, q__law_single_12, q__law_single_15, q__law_single_18, q__law_single_21, q__law_single_24, q__law_single_26, q__law_single_25, q__law_single_22, q__law_single_19, q__law_single_16, q__law_single_13, q__law_single_10, q__law_single_7, q__law_single_4, q__law_one_3, q__law_one_8, q__law_one_11, q__law_one_14, q__law_one_15, q__law_one_12, q__law_one_9, q__law_one_6, q__law_one_4, fs_BadName, fs_NoName, fs_TakenName, at_name]
  · refine ⟨st.length, [("network", a)], [.xo "BadNetwork" [("network", a)]], ?_, by simp [nm17, names17]⟩
    simp [F__law_one, bodyF_eq, m__law_one, startE, List.replicate, mVar, ltD_int, eqD_int, mMk, mMk0, attrX, many17, F__law_single, m__law_single, ixD, seqD, atI, ixN, q__law_single_3, q__law_single_6, q__law_single_9, q__law_single_12, q__law_single_15, q__law_single_18, q__law_single_21, q__law_single_24, q__law_single_26, q__law_single_25, q__law_single_22, q__law_single_19, q__law_single_16, q__law_single_13, q__law_single_10, q__law_single_7, q__law_single_4, q__law_one_3, q__law_one_8, q__law_one_11, q__law_one_14, q__law_one_15, q__law_one_12, q__law_one_9, q__law_one_6, q__law_one_4, fs_BadNetwork, at_network]
  · refine ⟨st.length, [("play", a)], [.xo "BadPlay" [("play", a)]], ?_, by simp [nm17, names17]⟩
    simp [F__law_one, bodyF_eq, m__law_one, startE, List.replicate, mVar, ltD_int, eqD_int, mMk, mMk0, attrX, many17, F__law_single, m__law_single, ixD, seqD, atI, ixN, q__law_single_3, q__law_single_6, q__law_single_9, q__law_single_12, q__law_single_15, q__law_single_18, q__law_single_21, q__law_single_24, q__law_single_26, q__law_single_25, q__law_single_22, q__law_single_19, q__law_single_16, q__law_single_13, q__law_single_10, q__law_single_7, q__law_single_4, q__law_one_3, q__law_one_8, q__law_one_11, q__law_one_14, q__law_one_15, q__law_one_12, q__law_one_9, q__law_one_6, q__law_one_4, fs_BadPlay, at_play]
  · refine ⟨st.length, [("lengths", a)], [.xo "BadLengths" [("lengths", a)]], ?_, by simp [nm17, names17]⟩
    simp [F__law_one, bodyF_eq, m__law_one, startE, List.replicate, mVar, ltD_int, eqD_int, mMk, mMk0, attrX, many17, F__law_single, m__law_single, ixD, seqD, atI, ixN, q__law_single_3, q__law_single_6, q__law_single_9, q__law_single_12, q__law_single_15, q__law_single_18, q__law_single_21, q__law_single_24, q__law_single_26, q__law_single_25, q__law_single_22, q__law_single_19, q__law_single_16, q__law_single_13, q__law_single_10, q__law_single_7, q__law_single_4, q__law_one_3, q__law_one_8, q__law_one_11, q__law_one_14, q__law_one_15, q__law_one_12, q__law_one_9, q__law_one_6, q__law_one_4, fs_BadLengths, at_lengths]
  · refine ⟨st.length, [("rows", a)], [.xo "BadRows" [("rows", a)]], ?_, by simp [nm17, names17]⟩
    simp [F__law_one, bodyF_eq, m__law_one, startE, List.replicate, mVar, ltD_int, eqD_int, mMk, mMk0, attrX, many17, F__law_single, m__law_single, ixD, seqD, atI, ixN, q__law_single_3, q__law_single_6, q__law_single_9, q__law_single_12, q__law_single_15, q__law_single_18, q__law_single_21, q__law_single_24, q__law_single_26, q__law_single_25, q__law_single_22, q__law_single_19, q__law_single_16, q__law_single_13, q__law_single_10, q__law_single_7, q__law_single_4, q__law_one_3, q__law_one_8, q__law_one_11, q__law_one_14, q__law_one_15, q__law_one_12, q__law_one_9, q__law_one_6, q__law_one_4, fs_BadRows, at_rows]
  · refine ⟨st.length, [("table", a)], [.xo "BadTable" [("table", a)]], ?_, by simp [nm17, names17]⟩
    simp [F__law_one, bodyF_eq, m__law_one, startE, List.replicate, mVar, ltD_int, eqD_int, mMk, mMk0, attrX, many17, F__law_single, m__law_single, ixD, seqD, atI, ixN, q__law_single_3, q__law_single_6, q__law_single_9, q__law_single_12, q__law_single_15, q__law_single_18, q__law_single_21, q__law_single_24, q__law_single_26, q__law_single_25, q__law_single_22, q__law_single_19, q__law_single_16, q__law_single_13, q__law_single_10, q__law_single_7, q__law_single_4, q__law_one_3, q__law_one_8, q__law_one_11, q__law_one_14, q__law_one_15, q__law_one_12, q__law_one_9, q__law_one_6, q__law_one_4, fs_BadTable, at_table]
  · refine ⟨st.length, [("paper", a)], [.xo "BadPaper" [("paper", a)]], ?_, by simp [nm17, names17]⟩
    simp [F__law_one, bodyF_eq, m__law_one, startE, List.replicate, mVar, ltD_int, eqD_int, mMk, mMk0, attrX, many17, F__law_single, m__law_single, ixD, seqD, atI, ixN, q__law_single_3, q__law_single_6, q__law_single_9, q__law_single_12, q__law_single_15, q__law_single_18, q__law_single_21, q__law_single_24, q__law_single_26, q__law_single_25, q__law_single_22, q__law_single_19, q__law_single_16, q__law_single_13, q__law_single_10, q__law_single_7, q__law_single_4, q__law_one_3, q__law_one_8, q__law_one_11, q__law_one_14, q__law_one_15, q__law_one_12, q__law_one_9, q__law_one_6, q__law_one_4, fs_BadPaper, at_paper]
  · refine ⟨st.length, [("job", a)], [.xo "BadJob" [("job", a)]], ?_, by simp [nm17, names17]⟩
    simp [F__law_one, bodyF_eq, m__law_one, startE, List.replicate, mVar, ltD_int, eqD_int, mMk, mMk0, attrX, many17, F__law_single, m__law_single, ixD, seqD, atI, ixN, q__law_single_3, q__law_single_6, q__law_single_9, q__law_single_12, q__law_single_15, q__law_single_18, q__law_single_21, q__law_single_24, q__law_single_26, q__law_single_25, q__law_single_22, q__law_single_19, q__law_single_16, q__law_single_13, q__law_single_10, q__law_single_7, q__law_single_4, q__law_one_3, q__law_one_8, q__law_one_11, q__law_one_14, q__law_one_15, q__law_one_12, q__law_one_9, q__law_one_6, q__law_one_4, fs_BadJob, at_job]
  · refine ⟨st.length, [("answers", a)], [.xo "BadAnswers" [("answers", a)]], ?_, by simp [nm17, names17]⟩
    simp [F__law_one, bodyF_eq, m__law_one, startE, List.replicate, mVar, ltD_int, eqD_int, mMk, mMk0, attrX, many17, F__law_single, m__law_single, ixD, seqD, atI, ixN, q__law_single_3, q__law_single_6, q__law_single_9, q__law_single_12, q__law_single_15, q__law_single_18, q__law_single_21, q__law_single_24, q__law_single_26, q__law_single_25, q__law_single_22, q__law_single_19, q__law_single_16, q__law_single_13, q__law_single_10, q__law_single_7, q__law_single_4, q__law_one_3, q__law_one_8, q__law_one_11, q__law_one_14, q__law_one_15, q__law_one_12, q__law_one_9, q__law_one_6, q__law_one_4, fs_BadAnswers, at_answers]
  · refine ⟨st.length, [("line", a)], [.xo "BadEntry" [("line", a)]], ?_, by simp [nm17, names17]⟩
    simp [F__law_one, bodyF_eq, m__law_one, startE, List.replicate, mVar, ltD_int, eqD_int, mMk, mMk0, attrX, many17, F__law_single, m__law_single, ixD, seqD, atI, ixN, q__law_single_3, q__law_single_6, q__law_single_9, q__law_single_12, q__law_single_15, q__law_single_18, q__law_single_21, q__law_single_24, q__law_single_26, q__law_single_25, q__law_single_22, q__law_single_19, q__law_single_16, q__law_single_13, q__law_single_10, q__law_single_7, q__law_single_4, q__law_one_3, q__law_one_8, q__law_one_11, q__law_one_14, q__law_one_15, q__law_one_12, q__law_one_9, q__law_one_6, q__law_one_4, fs_BadEntry, at_line]
  · refine ⟨st.length, [("column", b), ("line", a)], [.xo "BadText" [("column", b), ("line", a)]], ?_, by simp [nm17, names17]⟩
    have e : (("line" : Str) == "column") = false := by decide
    simp [F__law_one, bodyF_eq, m__law_one, startE, List.replicate, mVar, ltD_int, eqD_int, mMk, mMk0, attrX, many17, F__law_single, m__law_single, ixD, seqD, atI, ixN, q__law_single_3, q__law_single_6, q__law_single_9, q__law_single_12, q__law_single_15, q__law_single_18, q__law_single_21, q__law_single_24, q__law_single_26, q__law_single_25, q__law_single_22, q__law_single_19, q__law_single_16, q__law_single_13, q__law_single_10, q__law_single_7, q__law_single_4, q__law_one_3, q__law_one_8, q__law_one_11, q__law_one_14, q__law_one_15, q__law_one_12, q__law_one_9, q__law_one_6, q__law_one_4, fs_BadText, at_line, at_column, List.lookup, e]
  · refine ⟨st.length, [("number", b), ("what", a)], [.xo "BadNumber" [("number", b), ("what", a)]], ?_, by simp [nm17, names17]⟩
    have e : (("what" : Str) == "number") = false := by decide
    simp [F__law_one, bodyF_eq, m__law_one, startE, List.replicate, mVar, ltD_int, eqD_int, mMk, mMk0, attrX, many17, F__law_single, m__law_single, ixD, seqD, atI, ixN, q__law_single_3, q__law_single_6, q__law_single_9, q__law_single_12, q__law_single_15, q__law_single_18, q__law_single_21, q__law_single_24, q__law_single_26, q__law_single_25, q__law_single_22, q__law_single_19, q__law_single_16, q__law_single_13, q__law_single_10, q__law_single_7, q__law_single_4, q__law_one_3, q__law_one_8, q__law_one_11, q__law_one_14, q__law_one_15, q__law_one_12, q__law_one_9, q__law_one_6, q__law_one_4, fs_BadNumber, at_what, at_number, List.lookup, e]
  · refine ⟨st.length, [("witness", b), ("promise", a)], [.xo "NotKept" [("witness", b), ("promise", a)]], ?_, by simp [nm17, names17]⟩
    have e : (("promise" : Str) == "witness") = false := by decide
    simp [F__law_one, bodyF_eq, m__law_one, startE, List.replicate, mVar, ltD_int, eqD_int, mMk, mMk0, attrX, many17, F__law_single, m__law_single, ixD, seqD, atI, ixN, q__law_single_3, q__law_single_6, q__law_single_9, q__law_single_12, q__law_single_15, q__law_single_18, q__law_single_21, q__law_single_24, q__law_single_26, q__law_single_25, q__law_single_22, q__law_single_19, q__law_single_16, q__law_single_13, q__law_single_10, q__law_single_7, q__law_single_4, q__law_one_3, q__law_one_8, q__law_one_11, q__law_one_14, q__law_one_15, q__law_one_12, q__law_one_9, q__law_one_6, q__law_one_4, fs_NotKept, at_promise, at_witness, List.lookup, e]
  · refine ⟨st.length, [], [.xo "NothingToUndo" []], ?_, by simp [nm17, names17]⟩
    simp [F__law_one, bodyF_eq, m__law_one, startE, List.replicate, mVar, ltD_int, eqD_int, mMk, mMk0, attrX, many17, F__law_single, m__law_single, ixD, seqD, atI, ixN, q__law_single_3, q__law_single_6, q__law_single_9, q__law_single_12, q__law_single_15, q__law_single_18, q__law_single_21, q__law_single_24, q__law_single_26, q__law_single_25, q__law_single_22, q__law_single_19, q__law_single_16, q__law_single_13, q__law_single_10, q__law_single_7, q__law_single_4, q__law_one_3, q__law_one_8, q__law_one_11, q__law_one_14, q__law_one_15, q__law_one_12, q__law_one_9, q__law_one_6, q__law_one_4]
  · refine ⟨st.length, [], [.xo "NothingToRedo" []], ?_, by simp [nm17, names17]⟩
    simp [F__law_one, bodyF_eq, m__law_one, startE, List.replicate, mVar, ltD_int, eqD_int, mMk, mMk0, attrX, many17, F__law_single, m__law_single, ixD, seqD, atI, ixN, q__law_single_3, q__law_single_6, q__law_single_9, q__law_single_12, q__law_single_15, q__law_single_18, q__law_single_21, q__law_single_24, q__law_single_26, q__law_single_25, q__law_single_22, q__law_single_19, q__law_single_16, q__law_single_13, q__law_single_10, q__law_single_7, q__law_single_4, q__law_one_3, q__law_one_8, q__law_one_11, q__law_one_14, q__law_one_15, q__law_one_12, q__law_one_9, q__law_one_6, q__law_one_4]
theorem which_ok (k : Nat) (hk : k < 17) {st : Mem} {m : Nat} {fs : List (Str × D)} (h : st[m]? = some (.xo (nm17 k) fs)) : F__law_which [.loc m] st = .ok (.lst ((List.range 17).map fun j => .bl (decide (j = k)))) st := by
  have is (tab : List (Str × Bool)) (b : Bool) (e : tab.lookup (nm17 k) = some b) : isXoD tab (.loc m) st = .ok (.bl b) st := by simp [isXoD, h, e]
  have h0 := is tab_BadName _ ((by decide +kernel : ∀ k < 17, tab_BadName.lookup (nm17 k) = some (decide (0 = k))) k hk)
  have h1 := is tab_NoName _ ((by decide +kernel : ∀ k < 17, tab_NoName.lookup (nm17 k) = some (decide (1 = k))) k hk)
  have h2 := is tab_TakenName _ ((by decide +kernel : ∀ k < 17, tab_TakenName.lookup (nm17 k) = some (decide (2 = k))) k hk)
  have h3 := is tab_BadNetwork _ ((by decide +kernel : ∀ k < 17, tab_BadNetwork.lookup (nm17 k) = some (decide (3 = k))) k hk)
  have h4 := is tab_BadPlay _ ((by decide +kernel : ∀ k < 17, tab_BadPlay.lookup (nm17 k) = some (decide (4 = k))) k hk)
  have h5 := is tab_BadLengths _ ((by decide +kernel : ∀ k < 17, tab_BadLengths.lookup (nm17 k) = some (decide (5 = k))) k hk)
  have h6 := is tab_BadRows _ ((by decide +kernel : ∀ k < 17, tab_BadRows.lookup (nm17 k) = some (decide (6 = k))) k hk)
  have h7 := is tab_BadTable _ ((by decide +kernel : ∀ k < 17, tab_BadTable.lookup (nm17 k) = some (decide (7 = k))) k hk)
  have h8 := is tab_BadPaper _ ((by decide +kernel : ∀ k < 17, tab_BadPaper.lookup (nm17 k) = some (decide (8 = k))) k hk)
  have h9 := is tab_BadJob _ ((by decide +kernel : ∀ k < 17, tab_BadJob.lookup (nm17 k) = some (decide (9 = k))) k hk)
  have h10 := is tab_BadAnswers _ ((by decide +kernel : ∀ k < 17, tab_BadAnswers.lookup (nm17 k) = some (decide (10 = k))) k hk)
  have h11 := is tab_BadEntry _ ((by decide +kernel : ∀ k < 17, tab_BadEntry.lookup (nm17 k) = some (decide (11 = k))) k hk)
  have h12 := is tab_BadText _ ((by decide +kernel : ∀ k < 17, tab_BadText.lookup (nm17 k) = some (decide (12 = k))) k hk)
  have h13 := is tab_BadNumber _ ((by decide +kernel : ∀ k < 17, tab_BadNumber.lookup (nm17 k) = some (decide (13 = k))) k hk)
  have h14 := is tab_NotKept _ ((by decide +kernel : ∀ k < 17, tab_NotKept.lookup (nm17 k) = some (decide (14 = k))) k hk)
  have h15 := is tab_NothingToUndo _ ((by decide +kernel : ∀ k < 17, tab_NothingToUndo.lookup (nm17 k) = some (decide (15 = k))) k hk)
  have h16 := is tab_NothingToRedo _ ((by decide +kernel : ∀ k < 17, tab_NothingToRedo.lookup (nm17 k) = some (decide (16 = k))) k hk)
  simp [F__law_which, bodyF_eq, m__law_which, q__law_which_2, q__law_which_3, q__law_which_4, q__law_which_5, q__law_which_6, startE, List.replicate, mVar, addD, lstM, LINE, h0, h1, h2, h3, h4, h5, h6, h7, h8, h9, h10, h11, h12, h13, h14, h15, h16]
  rfl
theorem base_ok (k : Nat) (hk : k < 17) {st : Mem} {m : Nat} {fs : List (Str × D)} (h : st[m]? = some (.xo (nm17 k) fs)) : isXoD tab_DoubtError (.loc m) st = .ok (.bl true) st ∧ isXoD tab_ValueError (.loc m) st = .ok (.bl true) st := by
  have h1 := (by decide +kernel : ∀ k < 17, tab_DoubtError.lookup (nm17 k) = some true) k hk
  have h2 := (by decide +kernel : ∀ k < 17, tab_ValueError.lookup (nm17 k) = some true) k hk
  constructor <;> simp [isXoD, h, h1, h2]
end G00
set_option maxHeartbeats 4000000
namespace G00
open PySem PySem.Spec PyProof.Rows L2 VI
/-! ### small data -/
def sm (d : D) : Bool := okD 19 d && (match toPy d with
  | some p => p.showable && (p.leavesShort 100 && decide (p.weight ≤ 1000))
  | none => false)
def rs (xs : List D) : Str := match toPyL xs with
  | some ps => (PyData.tuple ps).shown
  | none => ""
theorem sm_all : ∀ {xs : List D}, (∀ d ∈ xs, sm d = true) → ∃ ps, toPyL xs = some ps ∧ okDL 19 xs = true ∧ PyData.showableAll ps = true ∧ PyData.leavesShortAll 100 ps = true ∧ PyData.weightAll ps ≤ 1001 * xs.length
  | [], _ => ⟨[], rfl, rfl, rfl, rfl, Nat.zero_le _⟩
  | d :: xs, h => by
    obtain ⟨ps, e, o, s, l, w⟩ := sm_all fun d hd => h d (List.mem_cons_of_mem _ hd)
    have hd := h d List.mem_cons_self
    simp only [sm, Bool.and_eq_true] at hd
    obtain ⟨h1, h2⟩ := hd
    split at h2
    · rename_i p ep
      simp only [Bool.and_eq_true, decide_eq_true_eq] at h2
      refine ⟨p :: ps, by simp [toPyL, ep, e], by simp [okDL, h1, o], by simp [PyData.showableAll, h2.1, s], by simp [PyData.leavesShortAll, h2.2.1, l], ?_⟩
      simp only [PyData.weightAll, List.length_cons]
      have := h2.2.2
      omega
    · cases h2
theorem rep_tup {xs : List D} {st : Mem} (h : ∀ d ∈ xs, sm d = true) (hl : xs.length ≤ 2) : reprD (.tup xs) st = .ok (.str (rs xs)) st := by
  obtain ⟨ps, e, o, s, l, w⟩ := sm_all h
  have hk : okD 20 (topD (.tup xs) st) = true := by simp [topD, okD, o]
  have ep : toPy (topD (.tup xs) st) = some (.tuple ps) := by simp [topD, toPy, e]
  have hz : (PyData.tuple ps).shown.length ≤ LINE := by
    have := PyData.shown_le 100 (by decide) (.tuple ps) (by simpa [PyData.leavesShort] using l)
    have w2 : (PyData.tuple ps).weight ≤ 2002 := by simp only [PyData.weight]; omega
    show _ ≤ 16777216
    omega
  have hr : reprOk (.tuple ps) = true := by simp [reprOk, PyData.showable, s, hz]
  unfold reprD
  rw [if_pos hk, ep]
  simp [hr, rs, e]
def menu (r1 r2 : Int) : List D := [.non, .bl true, .int 0, .int (-1 - r1), .int (10 ^ 40 + r2), .str "", .str "log", .tup [.int 1, .int 2], .lst [.int 3], .tup [.str "b", .str "c"], .tup [.tup [.int 0, .int 0]]]
theorem menu_sm {r1 r2 : Int} (a0 : 0 ≤ r1) (a1 : r1 < 9) (b0 : 0 ≤ r2) (b1 : r2 < 99) : ∀ d ∈ menu r1 r2, sm d = true := by
  have h1 : sm (.int (-1 - r1)) = true := by
    have : ∀ k < 9, sm (.int (-1 - (k : Nat))) = true := by decide +kernel
    have q := this r1.toNat (by omega)
    rwa [show ((r1.toNat : Nat) : Int) = r1 by omega] at q
  have h2 : sm (.int (10 ^ 40 + r2)) = true := by
    have : ∀ k < 99, sm (.int (10 ^ 40 + (k : Nat))) = true := by decide +kernel
    have q := this r2.toNat (by omega)
    rwa [show ((r2.toNat : Nat) : Int) = r2 by omega] at q
  intro d hd
  simp only [menu, List.mem_cons, List.not_mem_nil, or_false] at hd
  rcases hd with rfl | rfl | rfl | rfl | rfl | rfl | rfl | rfl | rfl | rfl | rfl
  · decide +kernel
  · decide +kernel
  · decide +kernel
  · exact h1
  · exact h2
  all_goals decide +kernel
/-! ### a turn -/
section
variable {p : Pen} {B : Int} {mn : List D} {xs : Mem} {x : Option D}
/-- what a turn of the loop starts from -/
def Inv0 (mn : List D) (i : Nat) (ρ : VI.Env) (st : Mem) : Prop := ∃ p rest x a b u e f y z w, PenOk (2 + 2 * i) 2147483543 p ∧ st = penC p :: Cell.lst mn :: rest ∧ ρ = [x, some (D.loc 0), some (D.loc 1), y, a, b, u, e, f, z, w]
theorem dues_ok {a b : D} {st : Mem} {ρ : VI.Env} (ha : sm a = true) (hb : sm b = true) (h4 : ρ[4]? = some (some a)) (h5 : ρ[5]? = some (some b)) (hl : ρ.length = 11) :
    mLC finF (mRng1 (mC (.int 3))) (gNm 9) (mYes) (mF (f1 reprD) [mSlice mkF (mTup [mVar 4, mVar 5]) mNoPart (mPart (mVar 9))]) [9] ρ st = .ok (.lst [.str (rs []), .str (rs [a]), .str (rs [a, b])]) st := by
  have h0 : ∀ st, reprD (.tup []) st = .ok (.str (rs [])) st := fun st => rep_tup (by simp) (by simp)
  have h1 : ∀ st, reprD (.tup [a]) st = .ok (.str (rs [a])) st := fun st => rep_tup (by simp [ha]) (by simp)
  have h2 : ∀ st, reprD (.tup [a, b]) st = .ok (.str (rs [a, b])) st := fun st => rep_tup (by simp [ha, hb]) (by simp)
  have e := lc_pure (g := gNm 9) (t := mYes) (m := mF (f1 reprD) [mSlice mkF (mTup [mVar 4, mVar 5]) mNoPart (mPart (mVar 9))]) (vs := [9]) (ρ := ρ) (st := st) (mi := mRng1 (mC (.int 3))) (ds := rangeL 0 3)
    (F := fun d => match d with
      | .int 0 => some (.str (rs []))
      | .int 1 => some (.str (rs [a]))
      | _ => some (.str (rs [a, b]))) rfl (fun d hd acc => ?_) (by decide) (fun d hd y q => ?_)
  · rw [e]; rfl
  · match ρ, hl with
    | [r0, r1, r2, r3, r4, r5, r6, r7, r8, r9, r10], _ =>
      simp at h4 h5
      subst h4 h5
      have hc : d = .int 0 ∨ d = .int 1 ∨ d = .int 2 := by
        have : rangeL 0 3 = [.int 0, .int 1, .int 2] := rfl
        rw [this] at hd
        simpa using hd
      rcases hc with rfl | rfl | rfl
      · have c : cutD [a, b] none (some 0) = [] := rfl
        simp [stepL, wipeE, mYes, mVar, mSlice, mNoPart, mPart, resI, sliceD, c, h0]
      · have c : cutD [a, b] none (some 1) = [a] := rfl
        simp [stepL, wipeE, mYes, mVar, mSlice, mNoPart, mPart, resI, sliceD, c, h1]
      · have c : cutD [a, b] none (some 2) = [a, b] := rfl
        simp [stepL, wipeE, mYes, mVar, mSlice, mNoPart, mPart, resI, sliceD, c, h2]
  · split at q <;> (cases q; rfl)
theorem eqs_ok (k : Nat) (hk : k < 17) {st : Mem} {ρ : VI.Env} (h3 : ρ[3]? = some (some (.int k))) (hl : ρ.length = 11) :
    mLC finF (mRng1 (mC (.int 17))) (gNm 10) (mYes) (m2 eqD (mVar 10) (mVar 3)) [10] ρ st = .ok (.lst ((List.range 17).map fun j => .bl (decide (j = k)))) st := by
  have e := lc_pure (g := gNm 10) (t := mYes) (m := m2 eqD (mVar 10) (mVar 3)) (vs := [10]) (ρ := ρ) (st := st) (mi := mRng1 (mC (.int 17))) (ds := rangeL 0 17)
    (F := fun d => match d with
      | .int i => some (.bl (i == (k : Int)))
      | _ => none) rfl (fun d hd acc => ?_) (by decide) (fun d hd y q => ?_)
  · rw [e]
    congr 2
    have : rangeL 0 17 = (List.range 17).map fun j => D.int (0 + (j : Nat)) := rfl
    rw [this, List.filterMap_map]
    have h : ∀ l : List Nat, l.filterMap ((fun d : D => match d with
      | .int i => some (D.bl (i == (k : Int)))
      | _ => none) ∘ fun j : Nat => D.int (0 + (j : Int))) = l.map fun j => .bl (decide (j = k)) := by
      intro l
      induction l with
      | nil => rfl
      | cons j l ih =>
        rw [List.map_cons, ← ih]
        have q : ((0 + (j : Int)) == (k : Int)) = decide (j = k) := by
          rw [Bool.eq_iff_iff]
          simp
          omega
        simp only [List.filterMap_cons, Function.comp, q]
    exact h _
  · match ρ, hl with
    | [r0, r1, r2, r3, r4, r5, r6, r7, r8, r9, r10], _ =>
      simp at h3
      subst h3
      have hc : ∃ i : Nat, d = .int (0 + (i : Nat)) := by
        obtain ⟨i, _, rfl⟩ := List.mem_map.mp hd
        exact ⟨i, rfl⟩
      obtain ⟨i, rfl⟩ := hc
      simp [stepL, wipeE, mYes, mVar, eqD_int]
  · split at q <;> first | (cases q; rfl) | cases q
theorem eqvL_refl : ∀ l : List Nat, ∀ k : Nat, eqvL (l.map fun j => .bl (decide (j = k))) (l.map fun j => .bl (decide (j = k))) = true
  | [], _ => rfl
  | j :: l, k => by simp [eqvL, eqvD, eqvL_refl l k]
theorem okDL_bl : ∀ l : List Nat, ∀ k n : Nat, okDL n (l.map fun j => .bl (decide (j = k))) = true
  | [], _, n => by cases n <;> rfl
  | j :: l, k, n => by
    have := okDL_bl l k n
    simp only [List.map_cons, okDL, this, Bool.and_true]
    cases n <;> rfl
/-- behind the two picks -/
theorem rest_ok (k : Nat) (hk : k < 17) {a b : D} (ha : sm a = true) (hb : sm b = true) (st : Mem) (x : Option D) (u e f z w : Option D) :
    ∃ st' u' e' f', q_law_6 [x, some (.loc 0), some (.loc 1), some (.int k), some a, some b, u, e, f, z, w] st = .nx [x, some (.loc 0), some (.loc 1), some (.int k), some a, some b, u', e', f', z, w] (st ++ st') := by
  obtain ⟨m, fs, st', e1, e2⟩ := one_ok k hk a b st
  have w1 := which_ok k hk e2
  obtain ⟨w2, w3⟩ := base_ok k hk e2
  have d1 := dues_ok (ρ := [x, some (.loc 0), some (.loc 1), some (.int k), some a, some b, u, e, f, z, w]) (st := st) ha hb rfl rfl rfl
  have dl := eqs_ok k hk (ρ := [x, some (.loc 0), some (.loc 1), some (.int k), some a, some b, some (.lst [.str (rs []), .str (rs [a]), .str (rs [a, b])]), some (.loc m), some (.tup ([a, b].take (many17 k))), z, w]) (st := st ++ st') rfl rfl
  have hc : many17 k = 0 ∨ many17 k = 1 ∨ many17 k = 2 := by unfold many17; split <;> first | omega | (split <;> omega)
  have hs : ∀ d ∈ [a, b].take (many17 k), sm d = true := fun d hd => by
    have := List.mem_of_mem_take hd
    simp at this
    rcases this with rfl | rfl <;> assumption
  have r1 := rep_tup (st := st ++ st') hs (by simp; omega)
  have r2 : m2 ixD (mVar 6) (mF (f1 lenD) [mVar 8]) [x, some (.loc 0), some (.loc 1), some (.int k), some a, some b, some (.lst [.str (rs []), .str (rs [a]), .str (rs [a, b])]), some (.loc m), some (.tup ([a, b].take (many17 k))), z, w] (st ++ st') = .ok (.str (rs ([a, b].take (many17 k)))) (st ++ st') := by
    rcases hc with q | q | q <;> rw [q] <;> simp [mVar, lenD, seqD, ixD, atI, ixN]
  have r3 : mF (f1 reprD) [mVar 8] [x, some (.loc 0), some (.loc 1), some (.int k), some a, some b, some (.lst [.str (rs []), .str (rs [a]), .str (rs [a, b])]), some (.loc m), some (.tup ([a, b].take (many17 k))), z, w] (st ++ st') = .ok (.str (rs ([a, b].take (many17 k)))) (st ++ st') := by
    simp only [ap_mF, ap_args1, ap_args0, mVar, List.getElem?_cons_succ, List.getElem?_cons_zero, Res.ok_bind, ap_f1, r1]
  have w4 : mF F__law_which [mVar 7] [x, some (.loc 0), some (.loc 1), some (.int k), some a, some b, some (.lst [.str (rs []), .str (rs [a]), .str (rs [a, b])]), some (.loc m), some (.tup ([a, b].take (many17 k))), z, w] (st ++ st') = .ok (.lst ((List.range 17).map fun j => .bl (decide (j = k)))) (st ++ st') := by
    simp only [ap_mF, ap_args1, ap_args0, mVar, List.getElem?_cons_succ, List.getElem?_cons_zero, Res.ok_bind, w1]
  have nn : neD (.lst ((List.range 17).map fun j => .bl (decide (j = k)))) (.lst ((List.range 17).map fun j => .bl (decide (j = k)))) (st ++ st') = .ok (.bl false) (st ++ st') := by
    have o : okD 12 (.lst ((List.range 17).map fun j => .bl (decide (j = k)))) = true := by simp only [okD]; exact okDL_bl _ _ _
    simp only [neD, topD, o, and_self, if_true, eqvD, eqvL_refl, Bool.not_true]
  have ns : ∀ s : Str, neD (.str s) (.str s) (st ++ st') = .ok (.bl false) (st ++ st') := fun s => by simp [neD]
  have t1 : m2 neD (mF (f1 reprD) [mVar 8]) (m2 ixD (mVar 6) (mF (f1 lenD) [mVar 8])) [x, some (.loc 0), some (.loc 1), some (.int k), some a, some b, some (.lst [.str (rs []), .str (rs [a]), .str (rs [a, b])]), some (.loc m), some (.tup ([a, b].take (many17 k))), z, w] (st ++ st') = .ok (.bl false) (st ++ st') := by
    rw [ap_m2, r3, Res.ok_bind, r2, Res.ok_bind, ns]
  have t2 : m2 neD (mF F__law_which [mVar 7]) (mLC finF (mRng1 (mC (.int 17))) (gNm 10) (mYes) (m2 eqD (mVar 10) (mVar 3)) [10]) [x, some (.loc 0), some (.loc 1), some (.int k), some a, some b, some (.lst [.str (rs []), .str (rs [a]), .str (rs [a, b])]), some (.loc m), some (.tup ([a, b].take (many17 k))), z, w] (st ++ st') = .ok (.bl false) (st ++ st') := by
    rw [ap_m2, w4, Res.ok_bind, dl, Res.ok_bind, nn]
  refine ⟨st', some (.lst [.str (rs []), .str (rs [a]), .str (rs [a, b])]), some (.loc m), some (.tup ([a, b].take (many17 k))), ?_⟩
  simp only [q_law_6, ap_seq, ap_set, d1, Res.ok_toS, RS.nx_seq, q_law_7]
  simp only [ap_asg, ap_mF, ap_args1, ap_args0, mVar, List.set_cons_succ, List.set_cons_zero, List.getElem?_cons_succ, List.getElem?_cons_zero, Res.ok_bind, e1, Res.ok_toS, gTp, seqD, List.length_cons, List.length_nil, if_true, gsCons, gsNil, ap_gNm, RS.nx_seq, q_law_8]
  simp only [ap_seq, ap_if, ap_asB, t1, Res.ok_bind, ap_resB, Res.ok_toS, Bool.false_eq_true, if_false, ap_nil, RS.nx_seq, q_law_10]
  simp only [ap_seq, ap_if, ap_or, ap_not, ap_asT, ap_m1, mVar, List.getElem?_cons_succ, List.getElem?_cons_zero, Res.ok_bind, w2, w3, ap_resT, Bool.not_true, Bool.false_eq_true, if_false, Res.ok_toS, ap_nil, RS.nx_seq, q_law_12]
  simp only [ap_if, ap_asB, t2, Res.ok_bind, ap_resB, Res.ok_toS, Bool.false_eq_true, if_false, ap_nil]
theorem turn_ok (k : Nat) (hk : k < 17) (hm : ∀ d ∈ mn, sm d = true) (h1 : 1 ≤ mn.length) (h2 : mn.length ≤ 1000) {ρ : VI.Env} {st : Mem} (h : Inv0 mn k ρ st) : ∃ ρ' st', stepF (gNm 3) b_law_4 (.int k) ρ st = .nx ρ' st' ∧ Inv0 mn (k + 1) ρ' st' := by
  obtain ⟨p, rest, x, a, b, u, e, f, y, z, w, ok, rfl, rfl⟩ := h
  obtain ⟨a', q, e1, m1, ok1⟩ := pick_ok (st := penC p :: Cell.lst mn :: rest) (n := 0) (m := 1) rfl rfl ok (by omega) h1 h2
  obtain ⟨b', r, e2, m2', ok2⟩ := pick_ok (st := penC q :: Cell.lst mn :: rest) (n := 0) (m := 1) rfl rfl ok1 (by omega) h1 h2
  obtain ⟨st', u', e', f', e3⟩ := rest_ok k hk (hm _ m1) (hm _ m2') (penC r :: Cell.lst mn :: rest) x u e f z w
  refine ⟨_, _, ?_, r, rest ++ st', x, some a', some b', u', e', f', some (.int k), z, w, ?_, rfl, rfl⟩
  · simp only [List.set_cons_zero] at e1 e2
    have e4 : b_law_4 [x, some (.loc 0), some (.loc 1), some (.int k), a, b, u, e, f, z, w] (penC p :: Cell.lst mn :: rest) = q_law_6 [x, some (.loc 0), some (.loc 1), some (.int k), some a', some b', u, e, f, z, w] (penC r :: Cell.lst mn :: rest) := by
      simp [b_law_4, mVar, e1, e2, gTp, seqD, gsCons, gsNil]
    show (match (gNm 3 (.int k) _ _) with | .nx ρ1 st1 => b_law_4 ρ1 st1 | _ => .bad) = _
    simp only [ap_gNm, List.set_cons_succ, List.set_cons_zero, e4, e3]
    rfl
  · have := ok2
    rw [show (2 + 2 * ((k + 1 : Nat) : Int)) = 2 + 2 * (k : Int) + 1 + 1 by omega]
    exact this
/-! ### the law -/
theorem math (ns : List Int) (hn : ns.length ≤ 63) : ∃ st, F_law [.fz (ns.map .int)] [] = .ok (.bl true) st := by
  obtain ⟨p, e1, ok⟩ := pen_ok ns
  obtain ⟨r1, q1, e2, a0, a1, ok1, _⟩ := draw_ok (st := [penC p]) (n := 0) (many := 9) rfl ok (by decide) (by decide) (by decide)
  obtain ⟨r2, q2, e3, b0, b1, ok2, _⟩ := draw_ok (st := [penC q1]) (n := 0) (many := 99) rfl ok1 (by decide) (by decide) (by decide)
  have hm := menu_sm a0 a1 b0 b1
  have h0 : Inv0 (menu r1 r2) 0 [some (.fz (ns.map .int)), some (.loc 0), some (.loc 1), none, none, none, none, none, none, none, none] [penC q2, Cell.lst (menu r1 r2)] := ⟨q2, [], _, _, _, _, _, _, _, _, _, ok2, rfl, rfl⟩
  obtain ⟨ρ', st', e4, _⟩ := forL_inv (ds := rangeL 0 17) (f := stepF (gNm 3) b_law_4) (I := fun i ρ st => Inv0 (menu r1 r2) i ρ st) (fun i d ρ st hd h => by
    have hi : i < 17 := by have := (List.getElem?_eq_some_iff.mp hd).1; simpa [rangeL] using this
    have hd' : d = .int (i : Nat) := by
      simp [rangeL, hi] at hd
      exact hd.symm
    subst hd'
    obtain ⟨ρ', st', h1, h2⟩ := turn_ok i hi hm (by simp [menu]) (by simp [menu]) h
    exact ⟨ρ', st', .inl h1, h2⟩) h0
  refine ⟨st', ?_⟩
  have s10 : VI.small64 10 = true := by decide
  have e40 : powD (.int 10) (.int 40) = fun st => .ok (.int (10 ^ 40)) st := by funext st; exact powD_int (i := 10) (j := 40) (by decide) (by decide) s10
  have e5 : q_law_4 [some (.fz (ns.map .int)), some (.loc 0), some (.loc 1), none, none, none, none, none, none, none, none] [penC q2, Cell.lst (menu r1 r2)] = .rt (.bl true) st' := by
    have e6 : mRng1 (mC (.int 17)) [some (.fz (ns.map .int)), some (.loc 0), some (.loc 1), none, none, none, none, none, none, none, none] [penC q2, Cell.lst (menu r1 r2)] = .ok (rangeL 0 17) [penC q2, Cell.lst (menu r1 r2)] := rfl
    simp only [q_law_4, ap_seq, sFor, e6, Res.ok_toS, e4, RS.nx_seq, q_law_14, ap_ret, ap_c]
  simp only [List.set_cons_zero] at e2 e3
  have e7 : q_law_3 [some (.fz (ns.map .int)), some (.loc 0), some (.loc 1), none, none, none, none, none, none, none, none] [penC q2, Cell.lst (menu r1 r2).dropLast] = .rt (.bl true) st' := by
    rw [← e5]
    simp [q_law_3, mBM, mVar, isT, appendD, menu, LINE]
  simp [F_law, bodyF_eq, m_law, startE, List.replicate, mVar, e1, q_law_2, e2, e3, negD, subD_int, addD_int, e40]
  rw [← endS_rt (.bl true) st', ← e7]
  rfl
theorem holds_k00 : PySem.Challenge.rw_timesindoubt_k00_errors.Holds := holds math
end
end G00
theorem PySem.Challenge.cw_timesindoubt_k00_errors_holds : PySem.Challenge.rw_timesindoubt_k00_errors.Holds := by
  exact G00.holds_k00
