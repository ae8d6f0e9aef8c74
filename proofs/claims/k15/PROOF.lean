import PyProof.Rows.All
import Wide.All
import OpenK.AllK
import Wide.FinOn
import PyProof.EqAt
import PyProof.EqKinds
import PyProof.TupleCall
import HandS.Base
import HandS.Call
import HandS.List
import HandS.Comp
import HandS.Ends
import HandS.Dict
import HandS.Iter
import HandS.Text
import HandS.Exc
import HandS.ExcOwn
import HandS.Flow
import HandS.Walk
import HandS.ExcValue
import HandS.ExcInit
import HandS.Lambda
import HandS.TupAny
import HandS.TupMul
import HandS.WideMore
import HandS.Deep
import HandS.TupLe
import HandS.IsInst
import HandS.WordsDict
import HandS.SortInts
import HandS.StrSplit
import HandS.TryOnly
import HandS.Style
import HandS.WordsExc
import HandS.Words
import HandS.Defaults
import HandS.Small
import HandS.ExcField
import KE.KExcIs
import PyProof.ReprRoads
import HandS.HeadHook2
import HandS.Head0
import HandS.Head1
import HandS.Head2
import HandS.Wide
import HandS.TryMany
import KE.GoesNew
import KE.GoesMore
import KE.GoesZip
import KE.SortData
import KE.KDictCopyH
import KE.KDictSum
import HandS.SortOrd
import HandS.SortRule
import HandS.Conv
import HandS.DictComp
import KE.DataMinMax
import KE.KStateDown
import Lean
import PySem.Challenge.RW_timesindoubt_k15_whole_fixed_times
set_option Elab.async false
set_option linter.all false
set_option maxRecDepth 100000
set_option autoImplicit false
set_option maxHeartbeats 4000000
/-! VI: functional readings over plain data. -/
namespace VI
open PySem PySem.Spec PyProof.Rows L2

/-- data as values: tuples and lists that are never changed, mutable cells by number, defs and classes by name -/
inductive D where
  | non | bl (b : Bool) | int (i : Int) | str (x : Str)
  | tup (xs : List D) | lst (xs : List D)
  | dct (ks : List Key) (vs : List D)
  | loc (n : Nat) | gl (x : Str) | fz (xs : List D) | kt (xs : List D)
  deriving Inhabited

inductive Cell where
  | lst (xs : List D) | dK (kvs : List (Key × D)) | dT (kvs : List (List Key × D)) | ins (c : Str) (fs : List (Str × D)) | xo (c : Str) (fs : List (Str × D)) | tmp
  deriving Inhabited
abbrev Mem := List Cell
abbrev Env := List (Option D)

/-- an exception: its class's name, its fields -/
structure Ex where
  c : Str
  fs : List (Str × D)

inductive Res (α : Type) where
  | ok (a : α) (st : Mem) | exc (e : Ex) (st : Mem) | bad
def Res.bind {α β : Type} : Res α → (α → Mem → Res β) → Res β
  | .ok a st, k => k a st
  | .exc e st, _ => .exc e st
  | .bad, _ => .bad
@[simp] theorem Res.ok_bind {α β : Type} (a : α) (st : Mem) (k : α → Mem → Res β) : (Res.ok a st).bind k = k a st := rfl
@[simp] theorem Res.exc_bind {α β : Type} (e : Ex) (st : Mem) (k : α → Mem → Res β) : (Res.exc e st : Res α).bind k = .exc e st := rfl
@[simp] theorem Res.bad_bind {α β : Type} (k : α → Mem → Res β) : (Res.bad : Res α).bind k = .bad := rfl

/-! ### how data lies in the heap -/
structure Gm where
  K : PySem.W.Frag
  mg : Str → Option Value
abbrev gm (X : Cx) : Gm := ⟨X.K, X.mg⟩

def FzT (mp : List Addr) (H : Hp) (a : Addr) (xs : List V) : Prop := H a = some (.tup xs) ∧ a ∉ mp
def FzK (K : PySem.W.Frag) (mp : List Addr) (H : Hp) (a : Addr) (xs : List V) : Prop :=
  (Rd H a (.tup xs) ∧ a ∉ mp) ∨
    ∃ (o : Obj) (its : Array Value) (n : Nat), K.lookup a = some o ∧ o.cls = .type "tuple" ∧ o.data = .seq its n ∧ its.size ≤ sizeLine ∧ Vals xs its.toList
def FzL (mp : List Addr) (H : Hp) (a : Addr) (xs : List V) : Prop := H a = some (.lst xs) ∧ a ∉ mp
def FzR (K : PySem.W.Frag) (mp : List Addr) (H : Hp) (a : Addr) (xs : List V) : Prop :=
  (Rd H a (.lst xs) ∧ a ∉ mp) ∨
    ∃ (o : Obj) (its : Array Value) (n : Nat), K.lookup a = some o ∧ o.cls = .type "list" ∧ o.dict = none ∧ o.data = .seq its n ∧ its.size ≤ sizeLine ∧ Vals xs its.toList
theorem FzT.sq {K : PySem.W.Frag} {mp : List Addr} {H : Hp} {a : Addr} {xs : List V} (h : FzT mp H a xs) : SqT K H a xs := .inl (.inl h.1)
theorem FzK.sq {K : PySem.W.Frag} {mp : List Addr} {H : Hp} {a : Addr} {xs : List V} (h : FzK K mp H a xs) : SqT K H a xs := h.elim (fun z => .inl z.1) .inr
theorem FzL.sq {K : PySem.W.Frag} {mp : List Addr} {H : Hp} {a : Addr} {xs : List V} (h : FzL mp H a xs) : SqL K H a xs := .inl (.inl h.1)
theorem FzR.sq {K : PySem.W.Frag} {mp : List Addr} {H : Hp} {a : Addr} {xs : List V} (h : FzR K mp H a xs) : SqL K H a xs := h.elim (fun z => .inl z.1) .inr

mutual
def Rv (Γ : Gm) (mp : List Addr) (H : Hp) : D → V → Prop
  | .non, v => v = .non
  | .bl b, v => v = .bl b
  | .int i, v => v = .int i
  | .str x, v => v = .str x
  | .tup xs, v => ∃ a vs, v = .ref a ∧ FzT mp H a vs ∧ RvL Γ mp H xs vs
  | .lst xs, v => ∃ a vs, v = .ref a ∧ FzL mp H a vs ∧ RvL Γ mp H xs vs
  | .kt xs, v => ∃ a vs, v = .ref a ∧ FzK Γ.K mp H a vs ∧ RvL Γ mp H xs vs
  | .fz xs, v => ∃ a vs, v = .ref a ∧ FzR Γ.K mp H a vs ∧ RvL Γ mp H xs vs
  | .dct ks xs, v => ∃ a vs, v = .ref a ∧ H a = some (.dK (ks.zip vs)) ∧ a ∉ mp ∧ ks.length = vs.length ∧ RvL Γ mp H xs vs
  | .loc n, v => ∃ a, v = .ref a ∧ mp[n]? = some a
  | .gl x, v => ∃ a, v = .ref a ∧ Γ.mg x = some (.ref a)
def RvL (Γ : Gm) (mp : List Addr) (H : Hp) : List D → List V → Prop
  | [], vs => vs = []
  | d :: ds, vs => ∃ v r, vs = v :: r ∧ Rv Γ mp H d v ∧ RvL Γ mp H ds r
end

/-- what grows: cells are added; what is no cell stays -/
structure Ext (mp : List Addr) (H : Hp) (mp' : List Addr) (H' : Hp) : Prop where
  pre : ∀ (n : Nat) (a : Addr), mp[n]? = some a → mp'[n]? = some a
  keep : ∀ a o, H a = some o → (∀ ps, o ≠ .tbl ps) → a ∉ mp → H' a = some o ∧ a ∉ mp'
theorem Ext.refl (mp : List Addr) (H : Hp) : Ext mp H mp H := ⟨fun _ _ h => h, fun _ _ h _ n => ⟨h, n⟩⟩
theorem Ext.trans {m1 m2 m3 : List Addr} {H1 H2 H3 : Hp} (a : Ext m1 H1 m2 H2) (b : Ext m2 H2 m3 H3) : Ext m1 H1 m3 H3 :=
  ⟨fun n x h => b.pre n x (a.pre n x h), fun x o h z n => let ⟨h1, n1⟩ := a.keep x o h z n; b.keep x o h1 z n1⟩
theorem Ext.rd {mp mp' : List Addr} {H H' : Hp} (e : Ext mp H mp' H') {a : Addr} {u : HO} (h : Rd H a u) (z : ∀ ps, u ≠ .tbl ps) (n : a ∉ mp) : Rd H' a u ∧ a ∉ mp' := by
  rcases h with h | ⟨o, h⟩
  · exact ⟨.inl (e.keep a _ h z n).1, (e.keep a _ h z n).2⟩
  · exact ⟨.inr ⟨o, (e.keep a _ h (fun _ q => by cases q) n).1⟩, (e.keep a _ h (fun _ q => by cases q) n).2⟩
theorem FzT.ext {mp mp' : List Addr} {H H' : Hp} {a : Addr} {xs : List V} (h : FzT mp H a xs) (e : Ext mp H mp' H') : FzT mp' H' a xs := e.keep _ _ h.1 (fun _ q => by cases q) h.2
theorem FzK.ext {K : PySem.W.Frag} {mp mp' : List Addr} {H H' : Hp} {a : Addr} {xs : List V} (h : FzK K mp H a xs) (e : Ext mp H mp' H') : FzK K mp' H' a xs :=
  h.elim (fun z => .inl (e.rd z.1 (fun _ q => by cases q) z.2)) .inr
theorem FzL.ext {mp mp' : List Addr} {H H' : Hp} {a : Addr} {xs : List V} (h : FzL mp H a xs) (e : Ext mp H mp' H') : FzL mp' H' a xs := e.keep _ _ h.1 (fun _ q => by cases q) h.2
theorem FzR.ext {K : PySem.W.Frag} {mp mp' : List Addr} {H H' : Hp} {a : Addr} {xs : List V} (h : FzR K mp H a xs) (e : Ext mp H mp' H') : FzR K mp' H' a xs :=
  h.elim (fun z => .inl (e.rd z.1 (fun _ q => by cases q) z.2)) .inr

mutual
theorem Rv.ext {Γ : Gm} {mp mp' : List Addr} {H H' : Hp} (e : Ext mp H mp' H') : ∀ (d : D) (v : V), Rv Γ mp H d v → Rv Γ mp' H' d v
  | .non, _, h => by simpa only [Rv] using h
  | .bl _, _, h => by simpa only [Rv] using h
  | .int _, _, h => by simpa only [Rv] using h
  | .str _, _, h => by simpa only [Rv] using h
  | .tup xs, v, h => by
    simp only [Rv] at h ⊢
    obtain ⟨a, vs, h1, h2, h3⟩ := h
    exact ⟨a, vs, h1, h2.ext e, RvL.ext e xs vs h3⟩
  | .lst xs, v, h => by
    simp only [Rv] at h ⊢
    obtain ⟨a, vs, h1, h2, h3⟩ := h
    exact ⟨a, vs, h1, h2.ext e, RvL.ext e xs vs h3⟩
  | .kt xs, v, h => by
    simp only [Rv] at h ⊢
    obtain ⟨a, vs, h1, h2, h3⟩ := h
    exact ⟨a, vs, h1, h2.ext e, RvL.ext e xs vs h3⟩
  | .fz xs, v, h => by
    simp only [Rv] at h ⊢
    obtain ⟨a, vs, h1, h2, h3⟩ := h
    exact ⟨a, vs, h1, h2.ext e, RvL.ext e xs vs h3⟩
  | .dct ks xs, v, h => by
    simp only [Rv] at h ⊢
    obtain ⟨a, vs, h1, h2, h3, h4, h5⟩ := h
    exact ⟨a, vs, h1, (e.keep _ _ h2 (fun _ q => by cases q) h3).1, (e.keep _ _ h2 (fun _ q => by cases q) h3).2, h4, RvL.ext e xs vs h5⟩
  | .loc n, v, h => by
    simp only [Rv] at h ⊢
    obtain ⟨a, h1, h2⟩ := h
    exact ⟨a, h1, e.pre n a h2⟩
  | .gl x, v, h => by simpa only [Rv] using h
theorem RvL.ext {Γ : Gm} {mp mp' : List Addr} {H H' : Hp} (e : Ext mp H mp' H') : ∀ (ds : List D) (vs : List V), RvL Γ mp H ds vs → RvL Γ mp' H' ds vs
  | [], _, h => by simpa only [RvL] using h
  | d :: ds, vs, h => by
    simp only [RvL] at h ⊢
    obtain ⟨v, r, h1, h2, h3⟩ := h
    exact ⟨v, r, h1, Rv.ext e d v h2, RvL.ext e ds r h3⟩
end

section
variable {Γ : Gm} {mp mp' : List Addr} {H H' : Hp}
theorem RvL.nil : RvL Γ mp H [] [] := by simp [RvL]
theorem RvL.cons {d : D} {v : V} {ds : List D} {vs : List V} (h : Rv Γ mp H d v) (r : RvL Γ mp H ds vs) : RvL Γ mp H (d :: ds) (v :: vs) := by
  simp only [RvL]; exact ⟨v, vs, rfl, h, r⟩
theorem RvL.length : ∀ {ds : List D} {vs : List V}, RvL Γ mp H ds vs → ds.length = vs.length
  | [], vs, h => by simp only [RvL] at h; subst h; rfl
  | d :: ds, vs, h => by
    simp only [RvL] at h
    obtain ⟨v, r, rfl, _, h3⟩ := h
    simp [RvL.length h3]
theorem RvL.get : ∀ {ds : List D} {vs : List V} {i : Nat} {d : D}, RvL Γ mp H ds vs → ds[i]? = some d → ∃ v, vs[i]? = some v ∧ Rv Γ mp H d v
  | [], _, _, _, _, e => by simp at e
  | x :: ds, vs, 0, d, h, e => by
    simp only [RvL] at h
    obtain ⟨v, r, rfl, h2, _⟩ := h
    simp at e; subst e
    exact ⟨v, rfl, h2⟩
  | x :: ds, vs, i + 1, d, h, e => by
    simp only [RvL] at h
    obtain ⟨v, r, rfl, _, h3⟩ := h
    obtain ⟨w, e1, e2⟩ := RvL.get (i := i) h3 (by simpa using e)
    exact ⟨w, by simpa using e1, e2⟩
theorem RvL.getV : ∀ {ds : List D} {vs : List V} {i : Nat} {v : V}, RvL Γ mp H ds vs → vs[i]? = some v → ∃ d, ds[i]? = some d ∧ Rv Γ mp H d v
  | [], vs, i, v, h, e => by simp only [RvL] at h; subst h; simp at e
  | x :: ds, vs, 0, v, h, e => by
    simp only [RvL] at h
    obtain ⟨w, r, rfl, h2, _⟩ := h
    simp at e; subst e
    exact ⟨x, rfl, h2⟩
  | x :: ds, vs, i + 1, v, h, e => by
    simp only [RvL] at h
    obtain ⟨w, r, rfl, _, h3⟩ := h
    obtain ⟨d, e1, e2⟩ := RvL.getV (i := i) h3 (by simpa using e)
    exact ⟨d, by simpa using e1, e2⟩
theorem RvL.append : ∀ {ds es : List D} {vs us : List V}, RvL Γ mp H ds vs → RvL Γ mp H es us → RvL Γ mp H (ds ++ es) (vs ++ us)
  | [], es, vs, us, h, h' => by simp only [RvL] at h; subst h; simpa using h'
  | d :: ds, es, vs, us, h, h' => by
    simp only [RvL] at h
    obtain ⟨v, r, rfl, h2, h3⟩ := h
    exact RvL.cons h2 (RvL.append h3 h')
theorem RvL.take : ∀ {ds : List D} {vs : List V} (n : Nat), RvL Γ mp H ds vs → RvL Γ mp H (ds.take n) (vs.take n)
  | _, _, 0, _ => by simp [RvL]
  | [], vs, n + 1, h => by simp only [RvL] at h; subst h; simp [RvL]
  | d :: ds, vs, n + 1, h => by
    simp only [RvL] at h
    obtain ⟨v, r, rfl, h2, h3⟩ := h
    simpa using RvL.cons h2 (RvL.take n h3)
theorem RvL.drop : ∀ {ds : List D} {vs : List V} (n : Nat), RvL Γ mp H ds vs → RvL Γ mp H (ds.drop n) (vs.drop n)
  | _, _, 0, h => h
  | [], vs, n + 1, h => by simp only [RvL] at h; subst h; simp [RvL]
  | d :: ds, vs, n + 1, h => by
    simp only [RvL] at h
    obtain ⟨v, r, rfl, h2, h3⟩ := h
    simpa using RvL.drop n h3
theorem RvL.set : ∀ {ds : List D} {vs : List V} (i : Nat) {d : D} {v : V}, RvL Γ mp H ds vs → Rv Γ mp H d v → RvL Γ mp H (ds.set i d) (vs.set i v)
  | [], vs, i, d, v, h, _ => by simp only [RvL] at h; subst h; simp [RvL]
  | x :: ds, vs, 0, d, v, h, h' => by
    simp only [RvL] at h
    obtain ⟨w, r, rfl, h2, h3⟩ := h
    exact RvL.cons h' h3
  | x :: ds, vs, i + 1, d, v, h, h' => by
    simp only [RvL] at h
    obtain ⟨w, r, rfl, h2, h3⟩ := h
    simpa using RvL.cons h2 (RvL.set i h3 h')
theorem RvL.of_get {ds : List D} : ∀ {vs : List V}, ds.length = vs.length → (∀ (i : Nat) (d : D) (v : V), ds[i]? = some d → vs[i]? = some v → Rv Γ mp H d v) → RvL Γ mp H ds vs := by
  induction ds with
  | nil => intro vs hl _; have : vs = [] := by cases vs <;> simp_all
           subst this; exact RvL.nil
  | cons d ds ih =>
    intro vs hl h
    cases vs with
    | nil => simp at hl
    | cons v vs => exact RvL.cons (h 0 d v rfl rfl) (ih (by simpa using hl) fun i d' v' e1 e2 => h (i + 1) d' v' (by simpa using e1) (by simpa using e2))
end

/-! ### the state -/
def RelC (Γ : Gm) (mp : List Addr) (H : Hp) (a : Addr) : Cell → Prop
  | .lst xs => ∃ vs, H a = some (.lst vs) ∧ RvL Γ mp H xs vs
  | .dK kvs => ∃ vs, H a = some (.dK vs) ∧ vs.map (·.1) = kvs.map (·.1) ∧ RvL Γ mp H (kvs.map (·.2)) (vs.map (·.2))
  | .dT kvs => ∃ vs, H a = some (.dT vs) ∧ vs.map (·.1) = kvs.map (·.1) ∧ RvL Γ mp H (kvs.map (·.2)) (vs.map (·.2))
  | .ins c fs => ∃ C dx vs, H a = some (.ins C dx vs) ∧ Γ.mg c = some (.ref C) ∧ vs.map (·.1) = fs.map (·.1) ∧ RvL Γ mp H (fs.map (·.2)) (vs.map (·.2))
  | .xo c fs => ∃ C, Γ.mg c = some (.ref C) ∧ ((fs = [] ∧ H a = some (ExO (.ref C) a)) ∨ ∃ d vs, H a = some (exo a C (some d)) ∧ H d = some (exd d vs) ∧ d ∉ mp ∧ vs.map (·.1) = fs.map (·.1) ∧ RvL Γ mp H (fs.map (·.2)) (vs.map (·.2)))
  | .tmp => ∃ kvs, H a = some (.dK kvs)
/-- the code objects of the text's defs, their tables, the names of lambdas made there -/
def codeT (K : PySem.W.Frag) : List (Addr × Addr × Str) := K.filterMap fun p => match p.2.data with
  | .func fd => (match fd.code with
    | .ref c => (match K.lookup c with
      | some o => (match o.data with
        | .fields vs => (match (vs.getD 11 .none : Value) with
          | .ref P => some (c, P, fd.qualname ++ ".<locals>." ++ "<lambda>")
          | _ => none)
        | _ => none)
      | none => none)
    | _ => none)
  | _ => none
def tabT (K : PySem.W.Frag) : List (Addr × Str) := (codeT K).map (·.2)
structure RelM (Γ : Gm) (mp : List Addr) (H : Hp) (st : Mem) : Prop where
  len : mp.length = st.length
  nd : mp.Nodup
  cell : ∀ (n : Nat) (c : Cell) (a : Addr), st[n]? = some c → mp[n]? = some a → RelC Γ mp H a c
  tabs : LamX.Tabs (tabT Γ.K) H
def RelE (Γ : Gm) (mp : List Addr) (H : Hp) (ρ : Env) (σ : L2.St) : Prop :=
  ρ.length = σ.length ∧ ∀ (i : Nat) (d : D), ρ[i]? = some (some d) → ∃ v, σ[i]? = some (some v) ∧ Rv Γ mp H d v
def RelX (Γ : Gm) (mp : List Addr) (H : Hp) (e : Ex) (cls : Value) (dd : Option Addr) : Prop :=
  ∃ C d vs, Γ.mg e.c = some (.ref C) ∧ cls = .ref C ∧ dd = some d ∧ H d = some (.xd vs) ∧ d ∉ mp ∧ vs.map (·.1) = e.fs.map (·.1) ∧ RvL Γ mp H (e.fs.map (·.2)) (vs.map (·.2))

section
variable {Γ : Gm} {mp mp' : List Addr} {H H' : Hp} {st : Mem}
theorem exd_tbl {dx : Addr} {fs : List (Str × V)} {ps : Array Value} : exd dx fs ≠ .tbl ps := fun z => by
  have z' : HO.ext _ = HO.tbl ps := z
  cases z'
theorem exO_tbl {cls : Value} {a : Addr} {ps : Array Value} : ExO cls a ≠ .tbl ps := fun z => by
  have z' : HO.ext _ = HO.tbl ps := z
  cases z'
theorem RelC.hasN {a : Addr} {c : Cell} (h : RelC Γ mp H a c) : ∃ o, H a = some o ∧ ∀ ps, o ≠ .tbl ps := by
  cases c with
  | lst xs => obtain ⟨_, h, _⟩ := h; exact ⟨_, h, fun _ q => by cases q⟩
  | dK xs => obtain ⟨_, h, _⟩ := h; exact ⟨_, h, fun _ q => by cases q⟩
  | dT xs => obtain ⟨_, h, _⟩ := h; exact ⟨_, h, fun _ q => by cases q⟩
  | ins c xs => obtain ⟨_, _, _, h, _⟩ := h; exact ⟨_, h, fun _ q => by cases q⟩
  | xo c xs =>
    obtain ⟨_, _, ⟨_, h⟩ | ⟨_, _, h, _⟩⟩ := h
    · exact ⟨_, h, fun _ q => exO_tbl q⟩
    · exact ⟨_, h, fun _ q => exo_tbl q⟩
  | tmp => obtain ⟨_, h⟩ := h; exact ⟨_, h, fun _ q => by cases q⟩
theorem RelC.has {a : Addr} {c : Cell} (h : RelC Γ mp H a c) : ∃ o, H a = some o := let ⟨o, h, _⟩ := h.hasN; ⟨o, h⟩
theorem RelC.ext {a : Addr} {c : Cell} (h : RelC Γ mp H a c) (e : Ext mp H mp' H') (hs : H' a = H a) : RelC Γ mp' H' a c := by
  cases c with
  | lst xs => obtain ⟨vs, h, r⟩ := h; exact ⟨vs, hs.trans h, RvL.ext e _ _ r⟩
  | dK xs => obtain ⟨vs, h, k, r⟩ := h; exact ⟨vs, hs.trans h, k, RvL.ext e _ _ r⟩
  | dT xs => obtain ⟨vs, h, k, r⟩ := h; exact ⟨vs, hs.trans h, k, RvL.ext e _ _ r⟩
  | ins c xs => obtain ⟨C, dx, vs, h, m, k, r⟩ := h; exact ⟨C, dx, vs, hs.trans h, m, k, RvL.ext e _ _ r⟩
  | xo c xs =>
    obtain ⟨C, m, ⟨n, h⟩ | ⟨d, vs, h, hd, nd, k, r⟩⟩ := h
    · exact ⟨C, m, .inl ⟨n, hs.trans h⟩⟩
    · exact ⟨C, m, .inr ⟨d, vs, hs.trans h, (e.keep d _ hd (fun _ q => exd_tbl q) nd).1, (e.keep d _ hd (fun _ q => exd_tbl q) nd).2, k, RvL.ext e _ _ r⟩⟩
  | tmp => obtain ⟨o, h⟩ := h; exact ⟨o, hs.trans h⟩
theorem RelM.has (R : RelM Γ mp H st) {a : Addr} (h : a ∈ mp) : ∃ o, H a = some o := by
  obtain ⟨n, hn, e⟩ := List.mem_iff_getElem.mp h
  have hn' : n < st.length := by rw [← R.len]; exact hn
  exact (R.cell n st[n] a (by simp [hn']) (by simp [hn, e])).has
theorem RelM.fresh (R : RelM Γ mp H st) {a : Addr} (h : H a = none) : a ∉ mp := fun z => by
  obtain ⟨o, e⟩ := R.has z
  rw [h] at e; cases e
/-- a thing laid that is no cell -/
theorem ext_laid {a : Addr} {o : HO} (h : H a = none) : Ext mp H mp (upd H a o) :=
  ⟨fun _ _ z => z, fun b u e _ n => ⟨by rw [upd_ne (ne_of_none e h)]; exact e, n⟩⟩
theorem RelM.laid (R : RelM Γ mp H st) {a : Addr} {o : HO} (h : H a = none) : RelM Γ mp (upd H a o) st :=
  ⟨R.len, R.nd, fun n c b e1 e2 => (R.cell n c b e1 e2).ext (ext_laid h) (by
    obtain ⟨u, e⟩ := (R.cell n c b e1 e2).has
    exact upd_ne (ne_of_none e h)), R.tabs.ext fun b u e => by rw [upd_ne (ne_of_none e h)]; exact e⟩
theorem ext_same (s : ∀ a o, H a = some o → H' a = some o) : Ext mp H mp H' := ⟨fun _ _ z => z, fun b u e _ n => ⟨s b u e, n⟩⟩
theorem RelM.same (R : RelM Γ mp H st) (s : ∀ a o, H a = some o → H' a = some o) : RelM Γ mp H' st :=
  ⟨R.len, R.nd, fun n c b e1 e2 => (R.cell n c b e1 e2).ext (ext_same s) (by
    obtain ⟨u, e⟩ := (R.cell n c b e1 e2).has
    rw [s b u e, e]), R.tabs.ext s⟩
/-- a cell laid -/
theorem ext_cell {a : Addr} {o : HO} (h : H a = none) : Ext mp H (mp ++ [a]) (upd H a o) :=
  ⟨fun n b z => by rw [List.getElem?_append_left (List.getElem?_eq_some_iff.mp z).1]; exact z,
   fun b u e _ n => ⟨by rw [upd_ne (ne_of_none e h)]; exact e, fun z => by
    rcases List.mem_append.mp z with z | z
    · exact n z
    · exact ne_of_none e h (by simpa using z)⟩⟩
theorem RelM.push (R : RelM Γ mp H st) {a : Addr} {o : HO} {c : Cell} (h : H a = none) (hc : RelC Γ (mp ++ [a]) (upd H a o) a c) : RelM Γ (mp ++ [a]) (upd H a o) (st ++ [c]) := by
  refine ⟨by simp [R.len], ?_, fun n c' b e1 e2 => ?_, R.tabs.ext fun b u e => by rw [upd_ne (ne_of_none e h)]; exact e⟩
  · rw [List.nodup_append]
    refine ⟨R.nd, by simp, fun x hx y hy => ?_⟩
    have : y = a := by simpa using hy
    subst this
    exact fun z => R.fresh h (z ▸ hx)
  · by_cases hn : n < st.length
    · rw [List.getElem?_append_left hn] at e1
      rw [List.getElem?_append_left (by rw [R.len]; exact hn)] at e2
      have q := R.cell n c' b e1 e2
      obtain ⟨u, e⟩ := q.has
      exact q.ext (ext_cell h) (upd_ne (ne_of_none e h))
    · have hl := (List.getElem?_eq_some_iff.mp e1).1
      have : n = st.length := by simp at hl; omega
      subst this
      rw [List.getElem?_append_right (Nat.le_refl _)] at e1
      rw [← R.len, List.getElem?_append_right (Nat.le_refl _)] at e2
      simp at e1 e2
      subst e1 e2
      exact hc
/-- a cell written -/
theorem ext_write {a : Addr} {o : HO} (h : a ∈ mp) : Ext mp H mp (upd H a o) :=
  ⟨fun _ _ z => z, fun b u e _ n => ⟨by rw [upd_ne (fun z => n (by rw [z]; exact h))]; exact e, n⟩⟩
/-- what is no table and no code object -/
def HO.pl : HO → Bool
  | .tbl _ => false
  | .ext _ => false
  | _ => true
theorem tabs_upd {T : List (Addr × Str)} {a : Addr} {o o0 : HO} (t : LamX.Tabs T H) (h : H a = some o0) (hp : HO.pl o0 = true) : LamX.Tabs T (upd H a o) := fun p hp' => by
  obtain ⟨ps, h1, h2, h3⟩ := t p hp'
  refine ⟨ps, ?_, h2, fun pos cv hc => ?_⟩
  · rw [upd_ne]
    · exact h1
    · intro z; rw [z, h] at h1; cases h1; cases hp
  · obtain ⟨c, e1, e2⟩ := h3 pos cv hc
    refine ⟨c, e1, ?_⟩
    rw [upd_ne]
    · exact e2
    · intro z
      rw [z, h] at e2
      have e3 := Option.some.inj e2
      unfold LamX.CodeO at e3
      rw [e3] at hp
      cases hp
theorem RelM.write (R : RelM Γ mp H st) {n : Nat} {a : Addr} {o o0 : HO} {c : Cell} (hn : mp[n]? = some a) (h0 : H a = some o0) (hc : RelC Γ mp (upd H a o) a c) (hp : HO.pl o0 = true := by rfl) : RelM Γ mp (upd H a o) (st.set n c) := by
  have ha : a ∈ mp := List.mem_of_getElem? hn
  refine ⟨by simp [R.len], R.nd, fun k c' b e1 e2 => ?_, tabs_upd R.tabs h0 hp⟩
  by_cases hk : k = n
  · subst hk
    rw [hn] at e2; cases e2
    have hl : k < st.length := by have := (List.getElem?_eq_some_iff.mp e1).1; simpa using this
    rw [List.getElem?_set_self hl] at e1
    cases e1
    exact hc
  · rw [List.getElem?_set_ne (Ne.symm hk)] at e1
    have hb : b ≠ a := by
      intro z; subst z
      obtain ⟨h1, q1⟩ := List.getElem?_eq_some_iff.mp e2
      obtain ⟨h2, q2⟩ := List.getElem?_eq_some_iff.mp hn
      exact hk ((List.getElem_inj R.nd).mp (q1.trans q2.symm))
    exact (R.cell k c' b e1 e2).ext (ext_write ha) (upd_ne hb)
theorem RelE.ext {ρ : Env} {σ : L2.St} (h : RelE Γ mp H ρ σ) (e : Ext mp H mp' H') : RelE Γ mp' H' ρ σ :=
  ⟨h.1, fun i d q => let ⟨v, h1, h2⟩ := h.2 i d q; ⟨v, h1, Rv.ext e d v h2⟩⟩
theorem RelE.set {ρ : Env} {σ : L2.St} (h : RelE Γ mp H ρ σ) (i : Nat) {d : D} {v : V} (r : Rv Γ mp H d v) : RelE Γ mp H (ρ.set i (some d)) (σ.set i (some v)) := by
  refine ⟨by simp [h.1], fun j d' e => ?_⟩
  by_cases hj : j = i
  · subst hj
    have hl : j < ρ.length := by have := (List.getElem?_eq_some_iff.mp e).1; simpa using this
    rw [List.getElem?_set_self hl] at e
    cases e
    exact ⟨v, by rw [List.getElem?_set_self (by rw [← h.1]; exact hl)], r⟩
  · rw [List.getElem?_set_ne (Ne.symm hj)] at e ⊢
    exact h.2 j d' e
end
end VI
set_option maxHeartbeats 4000000
namespace VI
open PySem PySem.Spec PyProof.Rows L2

/-- what is wanted of a result: by what it gives (Rel), or of the exception -/
def PostG {α β : Type} (Γ : Gm) (Rel : List Addr → Hp → α → β → Prop) (mp : List Addr) (H : Hp) (r : Res α) (Q : β → Hp → Prop) (W : XK) : Prop :=
  match r with
  | .ok d st' => ∀ mp' H' v, Ext mp H mp' H' → RelM Γ mp' H' st' → Rel mp' H' d v → Q v H'
  | .exc e st' => ∀ mp' H' cls dd, Ext mp H mp' H' → RelM Γ mp' H' st' → RelX Γ mp' H' e cls dd → W cls dd H'
  | .bad => False
abbrev RB : List Addr → Hp → Bool → Bool → Prop := fun _ _ a b => a = b
abbrev Post (Γ : Gm) := PostG Γ (Rv Γ)
abbrev PostL (Γ : Gm) := PostG Γ (RvL Γ)
abbrev PostB (Γ : Gm) := PostG Γ RB
section
variable {α β γ δ : Type} {Γ : Gm} {Rel : List Addr → Hp → α → β → Prop} {Rel2 : List Addr → Hp → γ → δ → Prop} {mp mp' : List Addr} {H H' : Hp} {W : XK}
theorem PostG.ext {r : Res α} {Q : β → Hp → Prop} (h : PostG Γ Rel mp H r Q W) (e : Ext mp H mp' H') : PostG Γ Rel mp' H' r Q W := by
  cases r with
  | ok d st => exact fun m2 H2 v e2 R r => h m2 H2 v (e.trans e2) R r
  | exc x st => exact fun m2 H2 c dd e2 R r => h m2 H2 c dd (e.trans e2) R r
  | bad => exact h
theorem PostG.bind {r : Res α} {k : α → Mem → Res γ} {Q : δ → Hp → Prop} (h : PostG Γ Rel2 mp H (r.bind k) Q W) :
    PostG Γ Rel mp H r (fun v H1 => ∃ mp1 st1 a, Ext mp H mp1 H1 ∧ RelM Γ mp1 H1 st1 ∧ Rel mp1 H1 a v ∧ PostG Γ Rel2 mp1 H1 (k a st1) Q W) W := by
  cases r with
  | ok d st => exact fun m2 H2 v e2 R r => ⟨m2, st, d, e2, R, r, PostG.ext (r := k d st) h e2⟩
  | exc x st => exact h
  | bad => exact h
/-- .. knowing which -/
theorem PostG.bind' {r : Res α} {k : α → Mem → Res γ} {Q : δ → Hp → Prop} (h : PostG Γ Rel2 mp H (r.bind k) Q W) :
    PostG Γ Rel mp H r (fun v H1 => ∃ mp1 st1 a, r = .ok a st1 ∧ Ext mp H mp1 H1 ∧ RelM Γ mp1 H1 st1 ∧ Rel mp1 H1 a v ∧ PostG Γ Rel2 mp1 H1 (k a st1) Q W) W := by
  cases r with
  | ok d st => exact fun m2 H2 v e2 R r => ⟨m2, st, d, rfl, e2, R, r, PostG.ext (r := k d st) h e2⟩
  | exc x st => exact h
  | bad => exact h
theorem PostG.mono {r : Res α} {Q Q' : β → Hp → Prop} (h : PostG Γ Rel mp H r Q W) (q : ∀ v H, Q v H → Q' v H) : PostG Γ Rel mp H r Q' W := by
  cases r with
  | ok d st => exact fun m2 H2 v e2 R r => q _ _ (h m2 H2 v e2 R r)
  | exc x st => exact h
  | bad => exact h
end

theorem PE.imp {X : Cx} {e : Expr} {t t' : TE} (h : PE X e t) (i : ∀ σ H Q, t' σ H Q → t σ H Q) : PE X e t' := ⟨fun pins s σ H Q I q => h.run pins s σ H Q I (i σ H Q q)⟩
theorem PT.imp {X : Cx} {e : Expr} {t t' : TT} (h : PT X e t) (i : ∀ σ H Q, t' σ H Q → t σ H Q) : PT X e t' := ⟨fun pins s σ H Q I q => h.run pins s σ H Q I (i σ H Q q)⟩
theorem PW.imp {X : Cx} {e : Expr} {t t' : TT} (h : PW X e t) (i : ∀ σ H Q, t' σ H Q → t σ H Q) : PW X e t' := ⟨fun wh pins s σ H Q I q => h.run wh pins s σ H Q I (i σ H Q q)⟩
theorem PA.imp {X : Cx} {e : List Expr} {t t' : TA} (h : PA X e t) (i : ∀ σ H Q, t' σ H Q → t σ H Q) : PA X e t' := ⟨fun pos pins s σ H Q I q => h.run pos pins s σ H Q I (i σ H Q q)⟩

abbrev ME := Env → Mem → Res D
abbrev MB := Env → Mem → Res Bool
abbrev ML := Env → Mem → Res (List D)
/-- the reading of a function -/
def tG {α β : Type} (Γ : Gm) (Rel : List Addr → Hp → α → β → Prop) (W : WX) (m : Env → Mem → Res α) : L2.St → Hp → (β → Hp → Prop) → Prop :=
  fun σ H Q => ∃ mp st ρ, RelM Γ mp H st ∧ RelE Γ mp H ρ σ ∧ PostG Γ Rel mp H (m ρ st) Q (fun c d H' => W c d σ H')
abbrev tE (Γ : Gm) (W : WX) (m : ME) : TE := tG Γ (Rv Γ) W m
abbrev tB' (Γ : Gm) (W : WX) (m : MB) : TT := tG Γ RB W m
abbrev tL (Γ : Gm) (W : WX) (m : ML) : TA := tG Γ (RvL Γ) W m
structure SE (X : Cx) (e : Expr) (m : ME) : Prop where
  run : ∀ W, Takes X W → PE X e (tE (gm X) W m)
structure ST (X : Cx) (e : Expr) (m : MB) : Prop where
  run : ∀ W, Takes X W → PT X e (tB' (gm X) W m)
structure SW (X : Cx) (e : Expr) (m : MB) : Prop where
  run : ∀ W, Takes X W → PW X e (tB' (gm X) W m)
/-- the argument lists -/
def mArgs : List ME → ML
  | [], _, st => .ok [] st
  | m :: ms, ρ, st => (m ρ st).bind fun d st1 => (mArgs ms ρ st1).bind fun ds st2 => .ok (d :: ds) st2
structure SA (X : Cx) (es : List Expr) (ms : List ME) : Prop where
  run : ∀ W, Takes X W → PA X es (tL (gm X) W (mArgs ms))
  len : ms.length = es.length
theorem mArgs_len : ∀ {ms : List ME} {ρ : Env} {st st' : Mem} {ds : List D}, mArgs ms ρ st = .ok ds st' → ds.length = ms.length
  | [], _, _, _, _, h => by simp only [mArgs, Res.ok.injEq] at h; obtain ⟨rfl, _⟩ := h; rfl
  | m :: ms, ρ, st, st', ds, h => by
    simp only [mArgs] at h
    cases e : m ρ st with
    | bad => rw [e] at h; simp at h
    | exc x s => rw [e] at h; simp at h
    | ok d s =>
      rw [e] at h
      simp only [Res.ok_bind] at h
      cases e2 : mArgs ms ρ s with
      | bad => rw [e2] at h; simp at h
      | exc x s => rw [e2] at h; simp at h
      | ok ds' s2 =>
        rw [e2] at h
        simp only [Res.ok_bind, Res.ok.injEq] at h
        obtain ⟨rfl, _⟩ := h
        simp [mArgs_len e2]

section
variable {X : Cx} {a b c : Expr} {ma mb mc : ME} {pos : Pos}
/-- from the start: a reading and then -/
theorem tG_bind {α β γ δ : Type} {Γ : Gm} {Rel : List Addr → Hp → α → β → Prop} {Rel2 : List Addr → Hp → γ → δ → Prop} {W : WX} {m : Env → Mem → Res α} {k : Env → α → Mem → Res γ} {σ : L2.St} {H : Hp} {Q : δ → Hp → Prop}
    (h : tG Γ Rel2 W (fun ρ st => (m ρ st).bind (k ρ)) σ H Q) :
    tG Γ Rel W m σ H (fun v H1 => ∃ mp1 st1 ρ a, RelM Γ mp1 H1 st1 ∧ RelE Γ mp1 H1 ρ σ ∧ Rel mp1 H1 a v ∧ PostG Γ Rel2 mp1 H1 (k ρ a st1) Q (fun c d H' => W c d σ H')) := by
  obtain ⟨mp, st, ρ, R, E, P⟩ := h
  exact ⟨mp, st, ρ, R, E, P.bind.mono fun v H1 ⟨mp1, st1, a, e, R1, r, P1⟩ => ⟨mp1, st1, ρ, a, R1, E.ext e, r, P1⟩⟩
/-- .. keeping what is known ahead -/
theorem tG_bindK {α β γ δ : Type} {Γ : Gm} {Rel : List Addr → Hp → α → β → Prop} {Rel2 : List Addr → Hp → γ → δ → Prop} {W : WX} {σ : L2.St} {H : Hp} {Q : δ → Hp → Prop} {m : Env → Mem → Res α} {k : α → Mem → Res γ} {ρ : Env} {st : Mem} {mp : List Addr}
    (R : RelM Γ mp H st) (E : RelE Γ mp H ρ σ) (P : PostG Γ Rel2 mp H ((m ρ st).bind k) Q (fun c d H' => W c d σ H')) :
    tG Γ Rel W m σ H (fun v H1 => ∃ mp1 st1 a, m ρ st = .ok a st1 ∧ Ext mp H mp1 H1 ∧ RelM Γ mp1 H1 st1 ∧ RelE Γ mp1 H1 ρ σ ∧ Rel mp1 H1 a v ∧ PostG Γ Rel2 mp1 H1 (k a st1) Q (fun c d H' => W c d σ H')) :=
  ⟨mp, st, ρ, R, E, P.bind'.mono fun v H1 ⟨mp1, st1, a, q, e, R1, r, P1⟩ => ⟨mp1, st1, a, q, e, R1, E.ext e, r, P1⟩⟩

/-! ### names, constants -/
def mVar (i : Nat) : ME := fun ρ st => match ρ[i]? with
  | some (some d) => .ok d st
  | _ => .bad
def mC (d : D) : ME := fun _ st => .ok d st
theorem se_of {e : Expr} {m : ME} {t : TE} (h : PE X e t) (i : ∀ W σ H Q, tE (gm X) W m σ H Q → t σ H Q) : SE X e m := ⟨fun W _ => PE.imp h (i W)⟩
theorem se_var {i : Nat} {x : Str} (hN : X.N[i]? = some x) (hv : Vis X.env.scope x) (hd : (x == ("__debug__" : Str)) = false := by decide) (hcd : (x == ("__classdict__" : Str)) = false := by decide) : SE X (.Name x pos) (mVar i) :=
  se_of (pe_var hN hv hd hcd) fun W σ H Q ⟨mp, st, ρ, R, E, P⟩ => by
    unfold mVar at P
    split at P
    · rename_i d e
      obtain ⟨v, h1, h2⟩ := E.2 i d e
      exact ⟨v, h1, P mp H v (Ext.refl _ _) R h2⟩
    · exact P.elim
theorem postC {Γ : Gm} {mp : List Addr} {H : Hp} {d : D} {st : Mem} {Q : VK} {W : XK} {v : V} (P : Post Γ mp H (.ok d st) Q W) (R : RelM Γ mp H st) (h : Rv Γ mp H d v) : Q v H := P mp H v (Ext.refl _ _) R h
theorem se_int {i : Int} {j : Nat} : SE X (.Constant (.int i) j pos) (mC (.int i)) := se_of pe_int fun W σ H Q ⟨mp, st, ρ, R, E, P⟩ => postC P R (by simp [Rv])
theorem se_bl {i : Bool} {j : Nat} : SE X (.Constant (.bool i) j pos) (mC (.bl i)) := se_of pe_bl fun W σ H Q ⟨mp, st, ρ, R, E, P⟩ => postC P R (by simp [Rv])
theorem se_non {j : Nat} : SE X (.Constant .none j pos) (mC .non) := se_of pe_non fun W σ H Q ⟨mp, st, ρ, R, E, P⟩ => postC P R (by simp [Rv])
theorem se_str {x : Str} {j : Nat} : SE X (.Constant (.str x) j pos) (mC (.str x)) := se_of pe_str fun W σ H Q ⟨mp, st, ρ, R, E, P⟩ => postC P R (by simp [Rv])
/-- a module's constant, class, def -/
theorem se_glob {x : Str} {v : V} {u : Value} {d : D} (hg : Gl X x) (hm : X.mg x = some u) (r : RelV v u) (hd : ∀ mp H, Rv (gm X) mp H d v) (hdb : (x == ("__debug__" : Str)) = false := by decide) : SE X (.Name x pos) (mC d) :=
  se_of (pe_glob hg hm r hdb) fun W σ H Q ⟨mp, st, ρ, R, E, P⟩ => postC P R (hd _ _)
theorem se_gl {x : Str} {f : Addr} (hg : Gl X x) (hm : X.mg x = some (.ref f)) (hdb : (x == ("__debug__" : Str)) = false := by decide) : SE X (.Name x pos) (mC (.gl x)) :=
  se_glob hg hm (v := .ref f) rfl (fun _ _ => by simp only [Rv]; exact ⟨f, rfl, hm⟩) hdb

/-! ### operators -/
abbrev F1 := D → Mem → Res D
abbrev F2 := D → D → Mem → Res D
def m1 (f : F1) (ma : ME) : ME := fun ρ st => (ma ρ st).bind f
def m2 (f : F2) (ma mb : ME) : ME := fun ρ st => (ma ρ st).bind fun d st1 => (mb ρ st1).bind fun e st2 => f d e st2
/-- r serves what f does -/
def Srv2 (Γ : Gm) (f : F2) (r : R2) : Prop := ∀ mp H st d e x y (Q : VK) (W : XK), RelM Γ mp H st → Rv Γ mp H d x → Rv Γ mp H e y → Post Γ mp H (f d e st) Q W → r x y H Q
def Srv1 (Γ : Gm) (f : F1) (r : V → Hp → VK → Prop) : Prop := ∀ mp H st d x (Q : VK) (W : XK), RelM Γ mp H st → Rv Γ mp H d x → Post Γ mp H (f d st) Q W → r x H Q
theorem tOp_of {f : F2} {r : R2} {W : WX} {σ : L2.St} {H : Hp} {Q : VK} {Γ : Gm} (hf : Srv2 Γ f r) (h : tE Γ W (m2 f ma mb) σ H Q) : tOp r (tE Γ W ma) (tE Γ W mb) σ H Q := by
  obtain ⟨mp, st, ρ, R, E, P⟩ := tG_bind (Rel := Rv Γ) (m := ma) (k := fun ρ d st1 => (mb ρ st1).bind fun e st2 => f d e st2) h
  refine ⟨mp, st, ρ, R, E, P.mono fun x H1 ⟨mp1, st1, ρ1, d, R1, E1, r1, P1⟩ => ?_⟩
  obtain ⟨mp2, st2, ρ2, R2, E2, P2⟩ := tG_bindK (Rel := Rv Γ) (m := mb) R1 E1 P1
  exact ⟨mp2, st2, ρ2, R2, E2, P2.mono fun y H2 ⟨mp3, st3, e, _, x3, R3, E3, r3, P3⟩ => hf mp3 H2 st3 d e x y Q _ R3 (Rv.ext x3 _ _ r1) r3 P3⟩
theorem tUn_of {f : F1} {r : V → Hp → VK → Prop} {W : WX} {σ : L2.St} {H : Hp} {Q : VK} {Γ : Gm} (hf : Srv1 Γ f r) (h : tE Γ W (m1 f ma) σ H Q) : tE Γ W ma σ H (fun x H1 => r x H1 Q) := by
  obtain ⟨mp, st, ρ, R, E, P⟩ := tG_bind (Rel := Rv Γ) (m := ma) (k := fun _ d st1 => f d st1) h
  exact ⟨mp, st, ρ, R, E, P.mono fun x H1 ⟨mp1, st1, ρ1, d, R1, E1, r1, P1⟩ => hf _ _ _ _ _ _ _ R1 r1 P1⟩
theorem se_op {op : Operator} {r : R2} {f : F2} (ho : OpR X (binaryOp op) r) (hf : Srv2 (gm X) f r) (ha : SE X a ma) (hb : SE X b mb) : SE X (.BinOp a op b pos) (m2 f ma mb) :=
  ⟨fun W tk => PE.imp (pe_op ho (ha.run W tk) (hb.run W tk)) fun σ H Q h => tOp_of hf h⟩
theorem se_un {op : UnaryOp} {r : V → Hp → VK → Prop} {f : F1} (ho : UnR X (unaryOp op) r) (hf : Srv1 (gm X) f r) (ha : SE X a ma) : SE X (.UnaryOp op a pos) (m1 f ma) :=
  ⟨fun W tk => PE.imp (pe_un ho (ha.run W tk)) fun σ H Q h => tUn_of hf h⟩
theorem se_cmp {op : CmpOp} {r : R2} {f : F2} (ho : OpR X (compareOp op) r) (hf : Srv2 (gm X) f r) (ha : SE X a ma) (hb : SE X b mb) (hm : behindInMarks op b = false) : SE X (.Compare a [op] [b] pos) (m2 f ma mb) :=
  ⟨fun W tk => PE.imp (pe_cmpR ho (ha.run W tk) (hb.run W tk) hm) fun σ H Q h => tOp_of hf h⟩
/-- a[b] -/
theorem se_ix {r : R2} {f : F2} (ho : IxR X r) (hf : Srv2 (gm X) f r) (ha : SE X a ma) (hb : SE X b mb) (hs : PlainIx b) : SE X (.Subscript a b pos) (m2 f ma mb) :=
  ⟨fun W tk => PE.imp (pe_ix ho (ha.run W tk) (hb.run W tk) hs) fun σ H Q h => tOp_of hf h⟩

/-! ### tests -/
def resB : D → Mem → Res Bool
  | .bl b, st => .ok b st
  | _, _ => .bad
def asB (m : ME) : MB := fun ρ st => (m ρ st).bind resB
theorem post_asB {Γ : Gm} {mp : List Addr} {H : Hp} {d : D} {st : Mem} {Q : Bool → Hp → Prop} {W : XK} {x : V} (R : RelM Γ mp H st) (h : Rv Γ mp H d x)
    (P : PostB Γ mp H (resB d st) Q W) : ∃ k, x = .bl k ∧ Q k H := by
  cases d with
  | bl b =>
    simp only [Rv] at h
    exact ⟨b, h, P mp H b (Ext.refl _ _) R rfl⟩
  | _ => exact P.elim
theorem tTest_of {W : WX} {σ : L2.St} {H : Hp} {Q : Bool → Hp → Prop} {Γ : Gm} {m : ME} (h : tB' Γ W (asB m) σ H Q) : tE Γ W m σ H fun x H' => ∃ k, x = .bl k ∧ Q k H' := by
  obtain ⟨mp, st, ρ, R, E, P⟩ := tG_bind (Rel := Rv Γ) (m := m) (k := fun _ => resB) h
  exact ⟨mp, st, ρ, R, E, P.mono fun x H1 ⟨mp1, st1, ρ1, d, R1, E1, r1, P1⟩ => post_asB R1 r1 P1⟩
theorem st_cmp {op : CmpOp} {r : R2} {f : F2} (ho : OpR X (compareOp op) r) (hf : Srv2 (gm X) f r) (ha : SE X a ma) (hb : SE X b mb) (hm : behindInMarks op b = false) : ST X (.Compare a [op] [b] pos) (asB (m2 f ma mb)) :=
  ⟨fun W tk => PT.imp (pt_cmpR ho (ha.run W tk) (hb.run W tk) hm) fun σ H Q h => tOp_of (r := fun x y H2 Q' => r x y H2 Q') (Q := fun x H' => ∃ k, x = .bl k ∧ Q k H') hf (tTest_of h)⟩
def truD : D → Mem → Option Bool
  | .non, _ => some false
  | .bl b, _ => some b
  | .int i, _ => some (i != 0)
  | .str x, _ => if x.length ≤ 16777216 then some ((x.length : Int) != 0) else none
  | .tup xs, _ => some (!xs.isEmpty)
  | .lst xs, _ => some (!xs.isEmpty)
  | .fz xs, _ => some (!xs.isEmpty)
  | .kt xs, _ => some (!xs.isEmpty)
  | .dct ks _, _ => some (!ks.isEmpty)
  | .loc n, st => match st[n]? with
    | some (.lst xs) => some (!xs.isEmpty)
    | some (.dK kvs) => some (!kvs.isEmpty)
    | _ => none
  | .gl _, _ => none
theorem empty_of_len {α β : Type} {xs : List α} {ys : List β} (h : xs.length = ys.length) : xs.isEmpty = ys.isEmpty := by
  cases xs <;> cases ys <;> simp_all
theorem tru_of {Γ : Gm} {mp : List Addr} {H : Hp} {st : Mem} {d : D} {x : V} {k : Bool} (R : RelM Γ mp H st) (h : Rv Γ mp H d x) (e : truD d st = some k) : TruV Γ.K x H k := by
  have hl : sizeLine = 16777216 := sizeLine_eq
  cases d with
  | non => simp only [Rv, truD, Option.some.injEq] at h e; subst h e; rfl
  | bl b => simp only [Rv, truD, Option.some.injEq] at h e; subst h e; rfl
  | int i => simp only [Rv, truD, Option.some.injEq] at h e; subst h e; rfl
  | str y =>
    simp only [Rv, truD] at h e; subst h
    split at e
    · cases e; exact ⟨by omega, rfl⟩
    · cases e
  | tup xs =>
    simp only [Rv, truD, Option.some.injEq] at h e
    obtain ⟨a, vs, rfl, q, r⟩ := h
    exact .inr (.inl ⟨vs, q.sq, by rw [← e, empty_of_len r.length]⟩)
  | lst xs =>
    simp only [Rv, truD, Option.some.injEq] at h e
    obtain ⟨a, vs, rfl, q, r⟩ := h
    exact .inl ⟨vs, q.sq, by rw [← e, empty_of_len r.length]⟩
  | fz xs =>
    simp only [Rv, truD, Option.some.injEq] at h e
    obtain ⟨a, vs, rfl, q, r⟩ := h
    exact .inl ⟨vs, q.sq, by rw [← e, empty_of_len r.length]⟩
  | kt xs =>
    simp only [Rv, truD, Option.some.injEq] at h e
    obtain ⟨a, vs, rfl, q, r⟩ := h
    exact .inr (.inl ⟨vs, q.sq, by rw [← e, empty_of_len r.length]⟩)
  | dct ks xs =>
    simp only [Rv, truD, Option.some.injEq] at h e
    obtain ⟨a, vs, rfl, q, n, l, r⟩ := h
    refine .inr (.inr ⟨_, q, ?_⟩)
    rw [← e]
    cases ks <;> cases vs <;> simp_all
  | loc n =>
    simp only [Rv] at h
    obtain ⟨a, rfl, hm⟩ := h
    simp only [truD] at e
    split at e
    · rename_i xs hs
      obtain ⟨vs, q, r⟩ := R.cell n _ a hs hm
      cases e
      exact .inl ⟨vs, SqL.of q, by rw [empty_of_len r.length]⟩
    · rename_i kvs hs
      obtain ⟨vs, q, k', r⟩ := R.cell n _ a hs hm
      cases e
      refine .inr (.inr ⟨vs, q, ?_⟩)
      have := congrArg List.length k'
      rw [empty_of_len (by simpa using this.symm)]
    · cases e
  | gl y => simp [truD] at e
def resT (d : D) (st : Mem) : Res Bool := match truD d st with
  | some b => .ok b st
  | none => .bad
def asT (m : ME) : MB := fun ρ st => (m ρ st).bind resT
theorem post_asT {Γ : Gm} {mp : List Addr} {H : Hp} {d : D} {st : Mem} {Q : Bool → Hp → Prop} {W : XK} {x : V} (R : RelM Γ mp H st) (h : Rv Γ mp H d x)
    (P : PostB Γ mp H (resT d st) Q W) : ∃ k, TruV Γ.K x H k ∧ Q k H := by
  unfold resT at P
  cases e : truD d st with
  | none => rw [e] at P; exact P.elim
  | some k => rw [e] at P; exact ⟨k, tru_of R h e, P mp H k (Ext.refl _ _) R rfl⟩
theorem st_truth (ha : SE X a ma) (he : ∀ whole, isTrue a X.env whole = (do let v ← whole; standAt a.pos; holding [v] (truthy v))) : ST X a (asT ma) :=
  ⟨fun W tk => PT.imp (pt_truth (ha.run W tk) he) fun σ H Q h => by
    obtain ⟨mp, st, ρ, R, E, P⟩ := tG_bind (Rel := Rv (gm X)) (m := ma) (k := fun _ => resT) h
    exact ⟨mp, st, ρ, R, E, P.mono fun x H1 ⟨mp1, st1, ρ1, d, R1, E1, r1, P1⟩ => post_asT R1 r1 P1⟩⟩
def mNot (m : MB) : MB := fun ρ st => (m ρ st).bind fun b st1 => .ok (!b) st1
def mAnd (m n : MB) : MB := fun ρ st => (m ρ st).bind fun b st1 => if b = true then n ρ st1 else .ok false st1
def mOr (m n : MB) : MB := fun ρ st => (m ρ st).bind fun b st1 => if b = true then .ok true st1 else n ρ st1
variable {na nb : MB}
theorem SW.st (h : SW X a na) : ST X a na := ⟨fun W tk => (h.run W tk).pt⟩
theorem st_not (ha : ST X a na) : ST X (.UnaryOp .Not a pos) (mNot na) := ⟨fun W tk => PT.imp (pt_not (ha.run W tk)) fun σ H Q h => by
  obtain ⟨mp, st, ρ, R, E, P⟩ := tG_bind (Rel := RB) (m := na) (k := fun _ b st1 => .ok (!b) st1) h
  exact ⟨mp, st, ρ, R, E, P.mono fun x H1 ⟨mp1, st1, ρ1, d, R1, E1, r1, P1⟩ => by cases r1; exact P1 mp1 H1 _ (Ext.refl _ _) R1 rfl⟩⟩
theorem sw_and1 (ha : ST X a na) : SW X (.BoolOp .And [a] pos) na := ⟨fun W tk => pw_and1 (ha.run W tk)⟩
theorem sw_or1 (ha : ST X a na) : SW X (.BoolOp .Or [a] pos) na := ⟨fun W tk => pw_or1 (ha.run W tk)⟩
theorem sw_and {rest : List Expr} (ha : ST X a na) (hb : SW X (.BoolOp .And (b :: rest) pos) nb) : SW X (.BoolOp .And (a :: b :: rest) pos) (mAnd na nb) := ⟨fun W tk => PW.imp (pw_and (ha.run W tk) (hb.run W tk)) fun σ H Q h => by
  obtain ⟨mp, st, ρ, R, E, P⟩ := tG_bind (Rel := RB) (m := na) (k := fun ρ b st1 => if b = true then nb ρ st1 else .ok false st1) h
  refine ⟨mp, st, ρ, R, E, P.mono fun x H1 ⟨mp1, st1, ρ1, d, R1, E1, r1, P1⟩ => ?_⟩
  cases r1
  cases x with
  | true => exact ⟨mp1, st1, ρ1, R1, E1, P1⟩
  | false => exact P1 mp1 H1 _ (Ext.refl _ _) R1 rfl⟩
theorem sw_or {rest : List Expr} (ha : ST X a na) (hb : SW X (.BoolOp .Or (b :: rest) pos) nb) : SW X (.BoolOp .Or (a :: b :: rest) pos) (mOr na nb) := ⟨fun W tk => PW.imp (pw_or (ha.run W tk) (hb.run W tk)) fun σ H Q h => by
  obtain ⟨mp, st, ρ, R, E, P⟩ := tG_bind (Rel := RB) (m := na) (k := fun ρ b st1 => if b = true then .ok true st1 else nb ρ st1) h
  refine ⟨mp, st, ρ, R, E, P.mono fun x H1 ⟨mp1, st1, ρ1, d, R1, E1, r1, P1⟩ => ?_⟩
  cases r1
  cases x with
  | false => exact ⟨mp1, st1, ρ1, R1, E1, P1⟩
  | true => exact P1 mp1 H1 _ (Ext.refl _ _) R1 rfl⟩
/-- .. as values -/
def mNotV (m : ME) : ME := fun ρ st => (m ρ st).bind fun d st1 => match truD d st1 with
  | some b => .ok (.bl (!b)) st1
  | none => .bad
def mAndV (m n : ME) : ME := fun ρ st => (m ρ st).bind fun d st1 => match truD d st1 with
  | some true => n ρ st1
  | some false => .ok d st1
  | none => .bad
def mOrV (m n : ME) : ME := fun ρ st => (m ρ st).bind fun d st1 => match truD d st1 with
  | some true => .ok d st1
  | some false => n ρ st1
  | none => .bad
theorem se_not (ha : SE X a ma) : SE X (.UnaryOp .Not a pos) (mNotV ma) := ⟨fun W tk => PE.imp (pe_notT (ha.run W tk)) fun σ H Q h => by
  obtain ⟨mp, st, ρ, R, E, P⟩ := tG_bind (Rel := Rv (gm X)) (m := ma) (k := fun _ d st1 => match truD d st1 with | some b => Res.ok (D.bl (!b)) st1 | none => Res.bad) h
  refine ⟨mp, st, ρ, R, E, P.mono fun x H1 ⟨mp1, st1, ρ1, d, R1, E1, r1, P1⟩ => ?_⟩
  cases e : truD d st1 with
  | none => simp only [e] at P1; exact P1.elim
  | some k => simp only [e] at P1; exact ⟨k, tru_of R1 r1 e, P1 mp1 H1 _ (Ext.refl _ _) R1 (by simp [Rv])⟩⟩
theorem se_one {op : BoolOp} (ha : SE X a ma) : SE X (.BoolOp op [a] pos) ma := ⟨fun W tk => pe_one (ha.run W tk)⟩
theorem se_and {rest : List Expr} (ha : SE X a ma) (hb : SE X (.BoolOp .And (b :: rest) pos) mb) : SE X (.BoolOp .And (a :: b :: rest) pos) (mAndV ma mb) := ⟨fun W tk => PE.imp (pe_andT (ha.run W tk) (hb.run W tk)) fun σ H Q h => by
  obtain ⟨mp, st, ρ, R, E, P⟩ := tG_bind (Rel := Rv (gm X)) (m := ma) (k := fun ρ d st1 => match truD d st1 with | some true => mb ρ st1 | some false => .ok d st1 | none => .bad) h
  refine ⟨mp, st, ρ, R, E, P.mono fun x H1 ⟨mp1, st1, ρ1, d, R1, E1, r1, P1⟩ => ?_⟩
  cases e : truD d st1 with
  | none => simp only [e] at P1; exact P1.elim
  | some k =>
    simp only [e] at P1
    refine ⟨k, tru_of R1 r1 e, ?_⟩
    cases k with
    | true => exact ⟨mp1, st1, ρ1, R1, E1, P1⟩
    | false => exact P1 mp1 H1 _ (Ext.refl _ _) R1 r1⟩
theorem se_or {rest : List Expr} (ha : SE X a ma) (hb : SE X (.BoolOp .Or (b :: rest) pos) mb) : SE X (.BoolOp .Or (a :: b :: rest) pos) (mOrV ma mb) := ⟨fun W tk => PE.imp (pe_orT (ha.run W tk) (hb.run W tk)) fun σ H Q h => by
  obtain ⟨mp, st, ρ, R, E, P⟩ := tG_bind (Rel := Rv (gm X)) (m := ma) (k := fun ρ d st1 => match truD d st1 with | some true => .ok d st1 | some false => mb ρ st1 | none => .bad) h
  refine ⟨mp, st, ρ, R, E, P.mono fun x H1 ⟨mp1, st1, ρ1, d, R1, E1, r1, P1⟩ => ?_⟩
  cases e : truD d st1 with
  | none => simp only [e] at P1; exact P1.elim
  | some k =>
    simp only [e] at P1
    refine ⟨k, tru_of R1 r1 e, ?_⟩
    cases k with
    | false => exact ⟨mp1, st1, ρ1, R1, E1, P1⟩
    | true => exact P1 mp1 H1 _ (Ext.refl _ _) R1 r1⟩
/-- a if t else b -/
def mIf (t : MB) (m n : ME) : ME := fun ρ st => (t ρ st).bind fun b st1 => if b = true then m ρ st1 else n ρ st1
theorem se_if (hc : ST X c na) (ha : SE X a ma) (hb : SE X b mb) : SE X (.IfExp c a b pos) (mIf na ma mb) := ⟨fun W tk => PE.imp (pe_ifExp (hc.run W tk) (ha.run W tk) (hb.run W tk)) fun σ H Q h => by
  obtain ⟨mp, st, ρ, R, E, P⟩ := tG_bind (Rel := RB) (m := na) (k := fun ρ b st1 => if b = true then ma ρ st1 else mb ρ st1) h
  refine ⟨mp, st, ρ, R, E, P.mono fun x H1 ⟨mp1, st1, ρ1, d, R1, E1, r1, P1⟩ => ?_⟩
  cases r1
  cases x with
  | true => exact ⟨mp1, st1, ρ1, R1, E1, P1⟩
  | false => exact ⟨mp1, st1, ρ1, R1, E1, P1⟩⟩
/-- a < b < c -/
def mCh (f g : F2) (ma mb mc : ME) : ME := fun ρ st => (ma ρ st).bind fun x st1 => (mb ρ st1).bind fun y st2 => (f x y st2).bind fun z st3 => match z with
  | .bl true => (mc ρ st3).bind fun w st4 => g y w st4
  | .bl false => .ok (.bl false) st3
  | _ => .bad
theorem tChain_of {op op' : CmpOp} {r r' : R2} {f g : F2} {W : WX} {σ : L2.St} {H : Hp} {Q : VK} {Γ : Gm} (hf : Srv2 Γ f r) (hg : Srv2 Γ g r') (h : tE Γ W (mCh f g ma mb mc) σ H Q) :
    tChain r r' (tE Γ W ma) (tE Γ W mb) (tE Γ W mc) σ H Q := by
  obtain ⟨mp, st, ρ, R, E, P⟩ := tG_bind (Rel := Rv Γ) (m := ma) (k := fun ρ x st1 => (mb ρ st1).bind fun y st2 => (f x y st2).bind fun z st3 => match z with
    | .bl true => (mc ρ st3).bind fun w st4 => g y w st4
    | .bl false => .ok (.bl false) st3
    | _ => .bad) h
  refine ⟨mp, st, ρ, R, E, P.mono fun x H1 ⟨mp1, st1, ρ1, d, R1, E1, r1, P1⟩ => ?_⟩
  obtain ⟨mp2, st2, ρ2, R2, E2, P2⟩ := tG_bindK (Rel := Rv Γ) (m := mb) R1 E1 P1
  refine ⟨mp2, st2, ρ2, R2, E2, P2.mono fun y H2 ⟨mp3, st3, e, _, x3, R3, E3, r3, P3⟩ => ?_⟩
  refine hf mp3 H2 st3 d e x y _ (fun c d H' => W c d σ H') R3 (Rv.ext x3 _ _ r1) r3 ((PostG.bind (Rel := Rv Γ) P3).mono fun z H4 ⟨mp4, st4, zd, x4, R4, r4, P4⟩ => ?_)
  cases zd with
  | bl k =>
    simp only [Rv] at r4
    subst r4
    refine ⟨k, rfl, ?_⟩
    cases k with
    | true =>
      obtain ⟨mp5, st5, ρ5, R5, E5, P5⟩ := tG_bindK (Rel := Rv Γ) (m := mc) R4 (E3.ext x4) P4
      exact ⟨mp5, st5, ρ5, R5, E5, P5.mono fun w H6 ⟨mp6, st6, ww, _, x6, R6, E6, r6, P6⟩ => hg mp6 H6 st6 e ww y w _ _ R6 (Rv.ext (x4.trans x6) _ _ r3) r6 P6⟩
    | false => exact P4 mp4 H4 _ (Ext.refl _ _) R4 (by simp [Rv])
  | _ => exact P4.elim
end
end VI
set_option maxHeartbeats 4000000
namespace VI
open PySem PySem.Spec PyProof.Rows L2

abbrev LINE : Nat := 16777216
theorem line_le {n : Nat} (h : n ≤ LINE) : n ≤ sizeLine := by rw [sizeLine_eq]; exact h

section
variable {Γ : Gm} {mp : List Addr} {H : Hp} {st : Mem} {Q : VK} {W : XK}
/-- a new tuple, a new list -/
theorem post_tup {ds : List D} {vs : List V} (P : Post Γ mp H (.ok (.tup ds) st) Q W) (R : RelM Γ mp H st) (r : RvL Γ mp H ds vs) : ∀ p, H p = none → Q (.ref p) (upd H p (.tup vs)) := fun p hp =>
  P mp _ _ (ext_laid hp) (R.laid hp) (by simp only [Rv]; exact ⟨p, vs, rfl, ⟨upd_same, R.fresh hp⟩, RvL.ext (ext_laid hp) _ _ r⟩)
theorem post_lst {ds : List D} {vs : List V} (P : Post Γ mp H (.ok (.lst ds) st) Q W) (R : RelM Γ mp H st) (r : RvL Γ mp H ds vs) : ∀ p, H p = none → Q (.ref p) (upd H p (.lst vs)) := fun p hp =>
  P mp _ _ (ext_laid hp) (R.laid hp) (by simp only [Rv]; exact ⟨p, vs, rfl, ⟨upd_same, R.fresh hp⟩, RvL.ext (ext_laid hp) _ _ r⟩)
/-- a new cell -/
theorem post_cell {c : Cell} {o : HO} (P : Post Γ mp H (.ok (.loc st.length) (st ++ [c])) Q W) (R : RelM Γ mp H st)
    (hc : ∀ p, H p = none → RelC Γ (mp ++ [p]) (upd H p o) p c) : ∀ p, H p = none → Q (.ref p) (upd H p o) := fun p hp =>
  P (mp ++ [p]) _ _ (ext_cell hp) (R.push hp (hc p hp)) (by simp only [Rv]; exact ⟨p, rfl, by rw [← R.len]; simp⟩)
theorem post_here {d : D} {v : V} (P : Post Γ mp H (.ok d st) Q W) (R : RelM Γ mp H st) (r : Rv Γ mp H d v) : Q v H := P mp H v (Ext.refl _ _) R r
end

/-! ### reading lists and tuples -/
/-- the items of a list, a tuple that stands still -/
def seqD : D → Mem → Option (List D)
  | .tup xs, _ => some xs
  | .kt xs, _ => some xs
  | .lst xs, _ => some xs
  | .fz xs, _ => some xs
  | .loc n, st => match st[n]? with
    | some (.lst xs) => some xs
    | _ => none
  | _, _ => none
/-- .. of a list -/
def lstD : D → Mem → Option (List D)
  | .lst xs, _ => some xs
  | .fz xs, _ => some xs
  | .loc n, st => match st[n]? with
    | some (.lst xs) => some xs
    | _ => none
  | _, _ => none
/-- .. of a list of ours -/
def lstM : D → Mem → Option (List D)
  | .lst xs, _ => some xs
  | .loc n, st => match st[n]? with
    | some (.lst xs) => some xs
    | _ => none
  | _, _ => none
section
variable {Γ : Gm} {mp : List Addr} {H : Hp} {st : Mem} {d : D} {x : V} {xs : List D}
theorem lstD_of (R : RelM Γ mp H st) (h : Rv Γ mp H d x) (e : lstD d st = some xs) : ∃ a vs, x = .ref a ∧ SqL Γ.K H a vs ∧ RvL Γ mp H xs vs := by
  cases d with
  | lst ys => simp only [Rv, lstD, Option.some.injEq] at h e; subst e; obtain ⟨a, vs, rfl, q, r⟩ := h; exact ⟨a, vs, rfl, q.sq, r⟩
  | fz ys => simp only [Rv, lstD, Option.some.injEq] at h e; subst e; obtain ⟨a, vs, rfl, q, r⟩ := h; exact ⟨a, vs, rfl, q.sq, r⟩
  | loc n =>
    simp only [Rv, lstD] at h e
    obtain ⟨a, rfl, hm⟩ := h
    split at e
    · rename_i ys hs
      cases e
      obtain ⟨vs, q, r⟩ := R.cell n _ a hs hm
      exact ⟨a, vs, rfl, SqL.of q, r⟩
    · cases e
  | _ => simp [lstD] at e
theorem lstM_of (R : RelM Γ mp H st) (h : Rv Γ mp H d x) (e : lstM d st = some xs) : ∃ a vs, x = .ref a ∧ H a = some (.lst vs) ∧ RvL Γ mp H xs vs := by
  cases d with
  | lst ys => simp only [Rv, lstM, Option.some.injEq] at h e; subst e; obtain ⟨a, vs, rfl, q, r⟩ := h; exact ⟨a, vs, rfl, q.1, r⟩
  | loc n =>
    simp only [Rv, lstM] at h e
    obtain ⟨a, rfl, hm⟩ := h
    split at e
    · rename_i ys hs
      cases e
      obtain ⟨vs, q, r⟩ := R.cell n _ a hs hm
      exact ⟨a, vs, rfl, q, r⟩
    · cases e
  | _ => simp [lstM] at e
theorem seqD_of (R : RelM Γ mp H st) (h : Rv Γ mp H d x) (e : seqD d st = some xs) : ∃ a vs, x = .ref a ∧ (SqL Γ.K H a vs ∨ SqT Γ.K H a vs) ∧ RvL Γ mp H xs vs := by
  cases d with
  | tup ys => simp only [Rv, seqD, Option.some.injEq] at h e; subst e; obtain ⟨a, vs, rfl, q, r⟩ := h; exact ⟨a, vs, rfl, .inr q.sq, r⟩
  | kt ys => simp only [Rv, seqD, Option.some.injEq] at h e; subst e; obtain ⟨a, vs, rfl, q, r⟩ := h; exact ⟨a, vs, rfl, .inr q.sq, r⟩
  | lst ys => simp only [Rv, seqD, Option.some.injEq] at h e; subst e; obtain ⟨a, vs, rfl, q, r⟩ := h; exact ⟨a, vs, rfl, .inl q.sq, r⟩
  | fz ys => simp only [Rv, seqD, Option.some.injEq] at h e; subst e; obtain ⟨a, vs, rfl, q, r⟩ := h; exact ⟨a, vs, rfl, .inl q.sq, r⟩
  | loc n =>
    simp only [Rv, seqD] at h e
    obtain ⟨a, rfl, hm⟩ := h
    split at e
    · rename_i ys hs
      cases e
      obtain ⟨vs, q, r⟩ := R.cell n _ a hs hm
      exact ⟨a, vs, rfl, .inl (SqL.of q), r⟩
    · cases e
  | _ => simp [seqD] at e
end

/-! ### arithmetic -/
def addD : F2 := fun d e st => match d, e with
  | .int i, .int j => .ok (.int (i + j)) st
  | .str x, .str y => if x.length + y.length ≤ LINE then .ok (.str (x ++ y)) st else .bad
  | .tup xs, .tup ys => if xs.length + ys.length ≤ LINE then .ok (.tup (xs ++ ys)) st else .bad
  | d, e => match lstM d st, lstM e st with
    | some xs, some ys => if xs.length + ys.length ≤ LINE then .ok (.lst (xs ++ ys)) st else .bad
    | _, _ => .bad
def rAdd' (K : PySem.W.Frag) : R2 := fun x y H Q => ((∃ i j, x = .int i ∧ y = .int j ∧ Q (.int (i + j)) H) ∨ (∃ i j, x = .str i ∧ y = .str j ∧ i.length + j.length ≤ sizeLine ∧ Q (.str (i ++ j)) H)) ∨ (rCatA K x y H Q ∨ rCat x y H Q)
theorem op_add' {X : Cx} : OpR X (binaryOp .Add) (rAdd' X.K) := OpR.or (OpR.or op_add op_add_str) (OpR.or op_catA op_cat)
theorem srv_cat {Γ : Gm} {mp : List Addr} {H : Hp} {st : Mem} {d e : D} {x y : V} {Q : VK} {W : XK} (R : RelM Γ mp H st) (h1 : Rv Γ mp H d x) (h2 : Rv Γ mp H e y)
    (P : Post Γ mp H (match lstM d st, lstM e st with
      | some xs, some ys => if xs.length + ys.length ≤ LINE then .ok (.lst (xs ++ ys)) st else .bad
      | _, _ => .bad) Q W) : rCat x y H Q := by
  split at P
  · rename_i xs ys e1 e2
    obtain ⟨a, vs, rfl, ha, ra⟩ := lstM_of R h1 e1
    obtain ⟨b, us, rfl, hb, rb⟩ := lstM_of R h2 e2
    split at P
    · rename_i hl
      exact ⟨a, b, vs, us, rfl, rfl, ha, hb, line_le (by rw [← ra.length, ← rb.length]; exact hl), post_lst P R (ra.append rb)⟩
    · exact P.elim
  · exact P.elim
theorem srv_add {Γ : Gm} : Srv2 Γ addD (rAdd' Γ.K) := by
  intro mp H st d e x y Q W R h1 h2 P
  unfold addD at P
  split at P
  · simp only [Rv] at h1 h2; subst h1 h2
    exact .inl (.inl ⟨_, _, rfl, rfl, post_here P R (by simp [Rv])⟩)
  · simp only [Rv] at h1 h2; subst h1 h2
    split at P
    · rename_i hl
      exact .inl (.inr ⟨_, _, rfl, rfl, line_le hl, post_here P R (by simp [Rv])⟩)
    · exact P.elim
  · rename_i xs ys
    have h1' := h1
    have h2' := h2
    simp only [Rv] at h1 h2
    obtain ⟨a, vs, rfl, ha, ra⟩ := h1
    obtain ⟨b, us, rfl, hb, rb⟩ := h2
    split at P
    · rename_i hl
      refine .inr (.inl ⟨a, b, vs, us, rfl, rfl, ha.sq, hb.sq, line_le (by rw [← ra.length, ← rb.length]; exact hl), fun z => ?_, fun _ z => ?_, fun _ _ => post_tup P R (ra.append rb)⟩)
      · subst z
        have : xs = [] := List.eq_nil_of_length_eq_zero ra.length
        subst this
        exact post_here P R h2'
      · subst z
        have : ys = [] := List.eq_nil_of_length_eq_zero rb.length
        subst this
        rw [List.append_nil] at P
        exact post_here P R h1'
    · exact P.elim
  · exact .inr (.inr (srv_cat R h1 h2 P))
def subD : F2 := fun d e st => match d, e with
  | .int i, .int j => .ok (.int (i - j)) st
  | _, _ => .bad
theorem srv_sub {Γ : Gm} : Srv2 Γ subD (rI0 fun i j => .int (i - j)) := by
  intro mp H st d e x y Q W R h1 h2 P
  unfold subD at P
  split at P
  · simp only [Rv] at h1 h2; subst h1 h2
    exact ⟨_, _, rfl, rfl, post_here P R (by simp [Rv])⟩
  · exact P.elim
/-- below 2 ^ 64 in size -/
def small64 (i : Int) : Bool := decide (i.natAbs.log2 < 64)
def rMul' (K : PySem.W.Frag) : R2 := fun x y H Q => rI CMul (fun i j => .int (i * j)) x y H Q ∨ (rRep x y H Q ∨ rRepT K x y H Q)
theorem op_mul' {X : Cx} : OpR X (binaryOp .Mult) (rMul' X.K) := OpR.or op_mul (OpR.or op_rep op_repT)
/-- list * int: frozen -/
def repD (mk : List D → Mem → Res D) (d : D) (k : Int) (st : Mem) : Res D := match d with
  | .tup xs => if xs.isEmpty = false ∧ 2 ≤ k ∧ k ≤ 1000 ∧ xs.length ≤ 1000 then .ok (.tup (List.replicate k.toNat xs).flatten) st else .bad
  | d => match lstM d st with
    | some xs => if -1000 ≤ k ∧ k ≤ 1000 ∧ xs.length ≤ 1000 then mk (List.replicate k.toNat xs).flatten st else .bad
    | none => .bad
def mkF (xs : List D) (st : Mem) : Res D := .ok (.lst xs) st
def mkN (xs : List D) (st : Mem) : Res D := .ok (.loc st.length) (st ++ [.lst xs])
def mulD (mk : List D → Mem → Res D) : F2 := fun d e st => match d, e with
  | .int i, .int j => if small64 i || small64 j then .ok (.int (i * j)) st else .bad
  | d, .int k => repD mk d k st
  | _, _ => .bad
/-- what a maker of lists must bear -/
def MkOk (mk : List D → Mem → Res D) : Prop := ∀ (Γ : Gm) (mp : List Addr) (H : Hp) (st : Mem) (Q : VK) (W : XK) (ds : List D) (vs : List V),
  RelM Γ mp H st → RvL Γ mp H ds vs → Post Γ mp H (mk ds st) Q W → ∀ p, H p = none → Q (.ref p) (upd H p (.lst vs))
theorem mkF_ok : MkOk mkF := fun Γ mp H st Q W ds vs R r P => post_lst P R r
theorem mkN_ok : MkOk mkN := fun Γ mp H st Q W ds vs R r P => post_cell P R fun p hp => ⟨vs, upd_same, RvL.ext (ext_cell hp) _ _ r⟩
theorem RvL.rep {Γ : Gm} {mp : List Addr} {H : Hp} {ds : List D} {vs : List V} (r : RvL Γ mp H ds vs) : ∀ n : Nat, RvL Γ mp H (List.replicate n ds).flatten (List.replicate n vs).flatten
  | 0 => RvL.nil
  | n + 1 => by simp only [List.replicate_succ, List.flatten_cons]; exact r.append (RvL.rep r n)
theorem small64_ok {i : Int} (h : small64 i = true) : -(2 ^ 64) < i ∧ i < 2 ^ 64 := by
  simp only [small64, decide_eq_true_eq] at h
  have h2 : i.natAbs < 2 ^ 64 := by
    by_cases h0 : i.natAbs = 0
    · rw [h0]; decide
    · exact (Nat.log2_lt h0).mp h
  have h3 : i.natAbs < 18446744073709551616 := h2
  exact ⟨by omega, by omega⟩
theorem srv_mul {Γ : Gm} {mk : List D → Mem → Res D} (hk : MkOk mk) : Srv2 Γ (mulD mk) (rMul' Γ.K) := by
  intro mp H st d e x y Q W R h1 h2 P
  unfold mulD at P
  split at P
  · simp only [Rv] at h1 h2; subst h1 h2
    split at P
    · rename_i hs
      refine .inl ⟨_, _, rfl, rfl, ?_, post_here P R (by simp [Rv])⟩
      rcases Bool.or_eq_true _ _ |>.mp hs with z | z
      · exact .inl (small64_ok z)
      · exact .inr (small64_ok z)
    · exact P.elim
  · rename_i k _
    have e2 := h2
    simp only [Rv] at e2
    subst e2
    unfold repD at P
    split at P
    · rename_i xs _
      simp only [Rv] at h1
      obtain ⟨a, vs, rfl, ha, ra⟩ := h1
      split at P
      · rename_i hc
        refine .inr (.inr ⟨a, k, vs, rfl, rfl, ha.sq, fun z => ?_, hc.2.1, hc.2.2.1, by rw [← ra.length]; exact hc.2.2.2, post_tup P R (ra.rep _)⟩)
        subst z
        have : xs = [] := List.eq_nil_of_length_eq_zero ra.length
        subst this
        simp at hc
      · exact P.elim
    · split at P
      · rename_i xs e1
        obtain ⟨a, vs, rfl, ha, ra⟩ := lstM_of R h1 e1
        split at P
        · rename_i hc
          refine .inr (.inl ⟨a, k, vs, rfl, rfl, ha, by omega, by omega, ?_, hk Γ mp H st Q W _ _ R (ra.rep _) P⟩)
          rw [sizeLine_eq, ← ra.length]
          have : xs.length * k.toNat ≤ 1000 * 1000 := Nat.mul_le_mul hc.2.2 (by omega)
          omega
        · exact P.elim
      · exact P.elim
  · exact P.elim
def fdivD : F2 := fun d e st => match d, e with
  | .int i, .int j => if 0 < j ∧ j < 1073741824 then .ok (.int (i / j)) st else .bad
  | _, _ => .bad
theorem srv_fdiv {Γ : Gm} : Srv2 Γ fdivD (rI CDiv fun i j => .int (i / j)) := by
  intro mp H st d e x y Q W R h1 h2 P
  unfold fdivD at P
  split at P
  · simp only [Rv] at h1 h2; subst h1 h2
    split at P
    · rename_i hc
      exact ⟨_, _, rfl, rfl, hc, post_here P R (by simp [Rv])⟩
    · exact P.elim
  · exact P.elim
def modD : F2 := fun d e st => match d, e with
  | .int i, .int j => if 0 < j then .ok (.int (i % j)) st else .bad
  | _, _ => .bad
theorem srv_mod {Γ : Gm} : Srv2 Γ modD (rI (fun _ j => 0 < j) fun i j => .int (i % j)) := by
  intro mp H st d e x y Q W R h1 h2 P
  unfold modD at P
  split at P
  · simp only [Rv] at h1 h2; subst h1 h2
    split at P
    · rename_i hc
      exact ⟨_, _, rfl, rfl, hc, post_here P R (by simp [Rv])⟩
    · exact P.elim
  · exact P.elim
def powD : F2 := fun d e st => match d, e with
  | .int i, .int j => if 0 ≤ j ∧ j ≤ 1000 ∧ small64 i = true then .ok (.int (i ^ j.toNat)) st else .bad
  | _, _ => .bad
theorem srv_pow {Γ : Gm} : Srv2 Γ powD (rI CPow fun i j => .int (i ^ j.toNat)) := by
  intro mp H st d e x y Q W R h1 h2 P
  unfold powD at P
  split at P
  · simp only [Rv] at h1 h2; subst h1 h2
    split at P
    · rename_i hc
      have := small64_ok hc.2.2
      exact ⟨_, _, rfl, rfl, ⟨hc.1, by omega, by omega⟩, post_here P R (by simp [Rv])⟩
    · exact P.elim
  · exact P.elim
def negD : F1 := fun d st => match d with
  | .int i => .ok (.int (-i)) st
  | _ => .bad
theorem srv_neg {Γ : Gm} : Srv1 Γ negD (rU fun i => .int (-i)) := by
  intro mp H st d x Q W R h1 P
  unfold negD at P
  split at P
  · simp only [Rv] at h1; subst h1
    exact ⟨_, rfl, post_here P R (by simp [Rv])⟩
  · exact P.elim

/-! ### data: ==, != -/
mutual
def toPy : D → Option PyData
  | .non => some .none
  | .bl b => some (.bool b)
  | .int i => some (.int i)
  | .str x => some (.str x)
  | .tup xs => (toPyL xs).map .tuple
  | .lst xs => (toPyL xs).map .list
  | .fz xs => (toPyL xs).map .list
  | .kt xs => (toPyL xs).map .tuple
  | _ => none
def toPyL : List D → Option (List PyData)
  | [] => some []
  | d :: ds => match toPy d, toPyL ds with
    | some p, some ps => some (p :: ps)
    | _, _ => none
end
mutual
theorem dp_of {Γ : Gm} {mp : List Addr} {H : Hp} : ∀ (d : D) (x : V) (p : PyData), Rv Γ mp H d x → toPy d = some p → Dp Γ.K H x p
  | .non, x, p, h, e => by simp only [Rv, toPy, Option.some.injEq] at h e; subst h e; exact .non
  | .bl b, x, p, h, e => by simp only [Rv, toPy, Option.some.injEq] at h e; subst h e; exact .bl b
  | .int b, x, p, h, e => by simp only [Rv, toPy, Option.some.injEq] at h e; subst h e; exact .int b
  | .str b, x, p, h, e => by simp only [Rv, toPy, Option.some.injEq] at h e; subst h e; exact .str b
  | .tup xs, x, p, h, e => by
    simp only [Rv, toPy, Option.map_eq_some_iff] at h e
    obtain ⟨a, vs, rfl, q, r⟩ := h
    obtain ⟨ps, e, rfl⟩ := e
    exact .tup q.sq (dpL_of xs vs ps r e)
  | .lst xs, x, p, h, e => by
    simp only [Rv, toPy, Option.map_eq_some_iff] at h e
    obtain ⟨a, vs, rfl, q, r⟩ := h
    obtain ⟨ps, e, rfl⟩ := e
    exact .lst q.sq (dpL_of xs vs ps r e)
  | .kt xs, x, p, h, e => by
    simp only [Rv, toPy, Option.map_eq_some_iff] at h e
    obtain ⟨a, vs, rfl, q, r⟩ := h
    obtain ⟨ps, e, rfl⟩ := e
    exact .tup q.sq (dpL_of xs vs ps r e)
  | .fz xs, x, p, h, e => by
    simp only [Rv, toPy, Option.map_eq_some_iff] at h e
    obtain ⟨a, vs, rfl, q, r⟩ := h
    obtain ⟨ps, e, rfl⟩ := e
    exact .lst q.sq (dpL_of xs vs ps r e)
  | .dct _ _, x, p, h, e => by simp [toPy] at e
  | .loc _, x, p, h, e => by simp [toPy] at e
  | .gl _, x, p, h, e => by simp [toPy] at e
theorem dpL_of {Γ : Gm} {mp : List Addr} {H : Hp} : ∀ (ds : List D) (vs : List V) (ps : List PyData), RvL Γ mp H ds vs → toPyL ds = some ps → DpAll Γ.K H vs ps
  | [], vs, ps, h, e => by simp only [RvL, toPyL, Option.some.injEq] at h e; subst h e; exact .nil
  | d :: ds, vs, ps, h, e => by
    simp only [RvL, toPyL] at h e
    obtain ⟨v, r, rfl, h2, h3⟩ := h
    split at e
    · rename_i p qs e1 e2
      cases e
      exact .cons (dp_of d v p h2 e1) (dpL_of ds r qs h3 e2)
    · cases e
end
/-- a list's cell looked into -/
def topD (d : D) (st : Mem) : D := match d with
  | .loc n => match st[n]? with
    | some (.lst xs) => .lst xs
    | _ => d
  | d => d
theorem top_dp {Γ : Gm} {mp : List Addr} {H : Hp} {st : Mem} {d : D} {x : V} {p : PyData} (R : RelM Γ mp H st) (h : Rv Γ mp H d x) (e : toPy (topD d st) = some p) : Dp Γ.K H x p := by
  unfold topD at e
  split at e
  · rename_i n
    simp only [Rv] at h
    obtain ⟨a, rfl, hm⟩ := h
    split at e
    · rename_i xs hs
      obtain ⟨vs, q, r⟩ := R.cell n _ a hs hm
      simp only [toPy, Option.map_eq_some_iff] at e
      obtain ⟨ps, e, rfl⟩ := e
      exact .lst (SqL.of q) (dpL_of xs vs ps r e)
    · simp [toPy] at e
  · exact dp_of _ _ _ h e
mutual
/-- data of depth below n, whose texts are of code points -/
def okD : Nat → D → Bool
  | _, .non => true
  | _, .bl _ => true
  | _, .int _ => true
  | _, .str x => x.cps.all (· < 1114112)
  | 0, _ => false
  | n + 1, .tup xs => okDL n xs
  | n + 1, .lst xs => okDL n xs
  | n + 1, .fz xs => okDL n xs
  | n + 1, .kt xs => okDL n xs
  | _, _ => false
def okDL : Nat → List D → Bool
  | _, [] => true
  | n, d :: ds => okD n d && okDL n ds
end
mutual
theorem okD_py : ∀ (d : D) (n : Nat), okD n d = true → ∃ p, toPy d = some p ∧ p.canLay0 = true ∧ p.depth ≤ n
  | .non, n, _ => ⟨.none, rfl, rfl, by simp [PyData.depth]⟩
  | .bl b, n, _ => ⟨.bool b, rfl, rfl, by simp [PyData.depth]⟩
  | .int b, n, _ => ⟨.int b, rfl, rfl, by simp [PyData.depth]⟩
  | .str b, n, h => ⟨.str b, rfl, by
    have h' : b.cps.all (· < 1114112) = true := by cases n <;> simpa only [okD] using h
    simpa only [PyData.canLay0, PyData.strOk] using h', by simp [PyData.depth]⟩
  | .tup xs, 0, h => by simp [okD] at h
  | .lst xs, 0, h => by simp [okD] at h
  | .fz xs, 0, h => by simp [okD] at h
  | .kt xs, 0, h => by simp [okD] at h
  | .kt xs, n + 1, h => by
    simp only [okD] at h
    obtain ⟨ps, e, c, l⟩ := okDL_py xs n h
    exact ⟨.tuple ps, by simp [toPy, e], by simpa [PyData.canLay0] using c, by simp only [PyData.depth]; omega⟩
  | .tup xs, n + 1, h => by
    simp only [okD] at h
    obtain ⟨ps, e, c, l⟩ := okDL_py xs n h
    exact ⟨.tuple ps, by simp [toPy, e], by simpa [PyData.canLay0] using c, by simp only [PyData.depth]; omega⟩
  | .lst xs, n + 1, h => by
    simp only [okD] at h
    obtain ⟨ps, e, c, l⟩ := okDL_py xs n h
    exact ⟨.list ps, by simp [toPy, e], by simpa [PyData.canLay0] using c, by simp only [PyData.depth]; omega⟩
  | .fz xs, n + 1, h => by
    simp only [okD] at h
    obtain ⟨ps, e, c, l⟩ := okDL_py xs n h
    exact ⟨.list ps, by simp [toPy, e], by simpa [PyData.canLay0] using c, by simp only [PyData.depth]; omega⟩
  | .dct _ _, n, h => by cases n <;> simp [okD] at h
  | .loc _, n, h => by cases n <;> simp [okD] at h
  | .gl _, n, h => by cases n <;> simp [okD] at h
theorem okDL_py : ∀ (ds : List D) (n : Nat), okDL n ds = true → ∃ ps, toPyL ds = some ps ∧ PyData.canLayAll0 ps = true ∧ PyData.depthAll ps ≤ n
  | [], n, _ => ⟨[], rfl, rfl, by simp [PyData.depthAll]⟩
  | d :: ds, n, h => by
    simp only [okDL, Bool.and_eq_true] at h
    obtain ⟨p, e1, c1, l1⟩ := okD_py d n h.1
    obtain ⟨ps, e2, c2, l2⟩ := okDL_py ds n h.2
    exact ⟨p :: ps, by simp [toPyL, e1, e2], by simp [PyData.canLayAll0, c1, c2], by simp only [PyData.depthAll]; omega⟩
end
mutual
/-- == of data -/
def eqvD : D → D → Bool
  | .non, .non => true
  | .bl a, .bl b => a == b
  | .bl a, .int j => (if a then 1 else 0) == j
  | .int i, .bl b => i == (if b then 1 else 0)
  | .int i, .int j => i == j
  | .str x, .str y => x == y
  | .lst xs, .lst ys => eqvL xs ys
  | .lst xs, .fz ys => eqvL xs ys
  | .fz xs, .lst ys => eqvL xs ys
  | .fz xs, .fz ys => eqvL xs ys
  | .tup xs, .tup ys => eqvL xs ys
  | .tup xs, .kt ys => eqvL xs ys
  | .kt xs, .tup ys => eqvL xs ys
  | .kt xs, .kt ys => eqvL xs ys
  | _, _ => false
def eqvL : List D → List D → Bool
  | [], [] => true
  | x :: xs, y :: ys => eqvD x y && eqvL xs ys
  | _, _ => false
end
mutual
theorem eqvD_py : ∀ (d e : D) (p q : PyData), toPy d = some p → toPy e = some q → PyData.eqv p q = eqvD d e
  | .non, e, p, q, h1, h2 => by
    simp only [toPy, Option.some.injEq] at h1; subst h1
    cases e <;> simp only [toPy, Option.some.injEq, Option.map_eq_some_iff, reduceCtorEq] at h2 <;> first | (subst h2; simp [PyData.eqv, eqvD]) | (obtain ⟨_, _, rfl⟩ := h2; simp [PyData.eqv, eqvD])
  | .bl b, e, p, q, h1, h2 => by
    simp only [toPy, Option.some.injEq] at h1; subst h1
    cases e <;> simp only [toPy, Option.some.injEq, Option.map_eq_some_iff, reduceCtorEq] at h2 <;> first | (subst h2; simp [PyData.eqv, eqvD]) | (obtain ⟨_, _, rfl⟩ := h2; simp [PyData.eqv, eqvD])
  | .int b, e, p, q, h1, h2 => by
    simp only [toPy, Option.some.injEq] at h1; subst h1
    cases e <;> simp only [toPy, Option.some.injEq, Option.map_eq_some_iff, reduceCtorEq] at h2 <;> first | (subst h2; simp [PyData.eqv, eqvD]) | (obtain ⟨_, _, rfl⟩ := h2; simp [PyData.eqv, eqvD])
  | .str b, e, p, q, h1, h2 => by
    simp only [toPy, Option.some.injEq] at h1; subst h1
    cases e <;> simp only [toPy, Option.some.injEq, Option.map_eq_some_iff, reduceCtorEq] at h2 <;> first | (subst h2; simp [PyData.eqv, eqvD]) | (obtain ⟨_, _, rfl⟩ := h2; simp [PyData.eqv, eqvD])
  | .tup xs, e, p, q, h1, h2 => by
    simp only [toPy, Option.map_eq_some_iff] at h1
    obtain ⟨ps, h1, rfl⟩ := h1
    cases e with
    | tup ys =>
      simp only [toPy, Option.map_eq_some_iff] at h2
      obtain ⟨qs, h2, rfl⟩ := h2
      simp only [PyData.eqv, eqvD]
      exact eqvL_py xs ys ps qs h1 h2
    | kt ys =>
      simp only [toPy, Option.map_eq_some_iff] at h2
      obtain ⟨qs, h2, rfl⟩ := h2
      simp only [PyData.eqv, eqvD]
      exact eqvL_py xs ys ps qs h1 h2
    | _ => simp only [toPy, Option.some.injEq, Option.map_eq_some_iff, reduceCtorEq] at h2 <;> first | (subst h2; simp [PyData.eqv, eqvD]) | (obtain ⟨_, _, rfl⟩ := h2; simp [PyData.eqv, eqvD])
  | .kt xs, e, p, q, h1, h2 => by
    simp only [toPy, Option.map_eq_some_iff] at h1
    obtain ⟨ps, h1, rfl⟩ := h1
    cases e with
    | tup ys =>
      simp only [toPy, Option.map_eq_some_iff] at h2
      obtain ⟨qs, h2, rfl⟩ := h2
      simp only [PyData.eqv, eqvD]
      exact eqvL_py xs ys ps qs h1 h2
    | kt ys =>
      simp only [toPy, Option.map_eq_some_iff] at h2
      obtain ⟨qs, h2, rfl⟩ := h2
      simp only [PyData.eqv, eqvD]
      exact eqvL_py xs ys ps qs h1 h2
    | _ => simp only [toPy, Option.some.injEq, Option.map_eq_some_iff, reduceCtorEq] at h2 <;> first | (subst h2; simp [PyData.eqv, eqvD]) | (obtain ⟨_, _, rfl⟩ := h2; simp [PyData.eqv, eqvD])
  | .lst xs, e, p, q, h1, h2 => by
    simp only [toPy, Option.map_eq_some_iff] at h1
    obtain ⟨ps, h1, rfl⟩ := h1
    cases e with
    | lst ys =>
      simp only [toPy, Option.map_eq_some_iff] at h2
      obtain ⟨qs, h2, rfl⟩ := h2
      simp only [PyData.eqv, eqvD]
      exact eqvL_py xs ys ps qs h1 h2
    | fz ys =>
      simp only [toPy, Option.map_eq_some_iff] at h2
      obtain ⟨qs, h2, rfl⟩ := h2
      simp only [PyData.eqv, eqvD]
      exact eqvL_py xs ys ps qs h1 h2
    | _ => simp only [toPy, Option.some.injEq, Option.map_eq_some_iff, reduceCtorEq] at h2 <;> first | (subst h2; simp [PyData.eqv, eqvD]) | (obtain ⟨_, _, rfl⟩ := h2; simp [PyData.eqv, eqvD])
  | .fz xs, e, p, q, h1, h2 => by
    simp only [toPy, Option.map_eq_some_iff] at h1
    obtain ⟨ps, h1, rfl⟩ := h1
    cases e with
    | lst ys =>
      simp only [toPy, Option.map_eq_some_iff] at h2
      obtain ⟨qs, h2, rfl⟩ := h2
      simp only [PyData.eqv, eqvD]
      exact eqvL_py xs ys ps qs h1 h2
    | fz ys =>
      simp only [toPy, Option.map_eq_some_iff] at h2
      obtain ⟨qs, h2, rfl⟩ := h2
      simp only [PyData.eqv, eqvD]
      exact eqvL_py xs ys ps qs h1 h2
    | _ => simp only [toPy, Option.some.injEq, Option.map_eq_some_iff, reduceCtorEq] at h2 <;> first | (subst h2; simp [PyData.eqv, eqvD]) | (obtain ⟨_, _, rfl⟩ := h2; simp [PyData.eqv, eqvD])
  | .dct _ _, e, p, q, h1, h2 => by simp [toPy] at h1
  | .loc _, e, p, q, h1, h2 => by simp [toPy] at h1
  | .gl _, e, p, q, h1, h2 => by simp [toPy] at h1
theorem eqvL_py : ∀ (ds es : List D) (ps qs : List PyData), toPyL ds = some ps → toPyL es = some qs → PyData.eqvAll ps qs = eqvL ds es
  | [], [], ps, qs, h1, h2 => by simp only [toPyL, Option.some.injEq] at h1 h2; subst h1 h2; rfl
  | [], e :: es, ps, qs, h1, h2 => by
    simp only [toPyL, Option.some.injEq] at h1 h2; subst h1
    split at h2
    · cases h2; rfl
    · cases h2
  | d :: ds, [], ps, qs, h1, h2 => by
    simp only [toPyL, Option.some.injEq] at h1 h2; subst h2
    split at h1
    · cases h1; rfl
    · cases h1
  | d :: ds, e :: es, ps, qs, h1, h2 => by
    simp only [toPyL] at h1 h2
    split at h1
    · rename_i p ps' e1 e2
      cases h1
      split at h2
      · rename_i q qs' f1 f2
        cases h2
        simp only [PyData.eqvAll, eqvL]
        rw [eqvD_py d e p q e1 f1, eqvL_py ds es ps' qs' e2 f2]
      · cases h2
    · cases h1
end
def eqD : F2 := fun d e st => match d, e with
  | .str x, .str y => .ok (.bl (x == y)) st
  | d, e => if okD 12 (topD d st) = true ∧ okD 12 (topD e st) = true then .ok (.bl (eqvD (topD d st) (topD e st))) st else .bad
def neD : F2 := fun d e st => match d, e with
  | .str x, .str y => .ok (.bl (!(x == y))) st
  | d, e => if okD 12 (topD d st) = true ∧ okD 12 (topD e st) = true then .ok (.bl (!eqvD (topD d st) (topD e st))) st else .bad
def rEq' (K : PySem.W.Frag) : R2 := fun x y H Q => rEq x y H Q ∨ rEqD K x y H Q
def rNe' (K : PySem.W.Frag) : R2 := fun x y H Q => rNe x y H Q ∨ rNeD K x y H Q
theorem shaped_of {p : PyData} {n : Nat} (h1 : p.canLay0 = true) (h2 : p.depth ≤ n) (h3 : n ≤ 64) : SeqAt.shaped p = true := by
  unfold SeqAt.shaped
  rw [h1, decide_eq_true (show p.depth ≤ 64 by omega)]; rfl
theorem srv_eq {Γ : Gm} : Srv2 Γ eqD (rEq' Γ.K) := by
  intro mp H st d e x y Q W R h1 h2 P
  unfold eqD at P
  split at P
  · simp only [Rv] at h1 h2; subst h1 h2
    exact .inl ⟨rfl, post_here P R (by simp only [Rv]; rw [dec_str])⟩
  · split at P
    · rename_i hc
      obtain ⟨p, e1, c1, l1⟩ := okD_py _ _ hc.1
      obtain ⟨q, e2, c2, l2⟩ := okD_py _ _ hc.2
      exact .inr ⟨p, q, top_dp R h1 e1, top_dp R h2 e2, shaped_of c1 l1 (by decide), shaped_of c2 l2 (by decide), post_here P R (by simp [Rv, eqvD_py _ _ _ _ e1 e2])⟩
    · exact P.elim
theorem srv_ne {Γ : Gm} : Srv2 Γ neD (rNe' Γ.K) := by
  intro mp H st d e x y Q W R h1 h2 P
  unfold neD at P
  split at P
  · simp only [Rv] at h1 h2; subst h1 h2
    exact .inl ⟨rfl, post_here P R (by simp only [Rv]; rw [dec_str])⟩
  · split at P
    · rename_i hc
      obtain ⟨p, e1, c1, l1⟩ := okD_py _ _ hc.1
      obtain ⟨q, e2, c2, l2⟩ := okD_py _ _ hc.2
      exact .inr ⟨p, q, top_dp R h1 e1, top_dp R h2 e2, shaped_of c1 l1 (by decide), shaped_of c2 l2 (by decide), post_here P R (by simp [Rv, eqvD_py _ _ _ _ e1 e2])⟩
    · exact P.elim
/-- is None -/
def isNonD : D → Bool
  | .non => true
  | _ => false
theorem isNon_of {Γ : Gm} {mp : List Addr} {H : Hp} {d : D} {x : V} (h : Rv Γ mp H d x) : decide (x = .non) = isNonD d := by
  cases d <;> simp only [Rv] at h <;> first | (subst h; rfl) | (obtain ⟨a, vs, rfl, _⟩ := h; rfl) | (obtain ⟨a, rfl, _⟩ := h; rfl)
def isD : F2 := fun d e st => match d, e with
  | d, .non => .ok (.bl (isNonD d)) st
  | .bl a, .bl b => .ok (.bl (a == b)) st
  | _, _ => .bad
def isnotD : F2 := fun d e st => match d, e with
  | d, .non => .ok (.bl (!isNonD d)) st
  | .bl a, .bl b => .ok (.bl (!(a == b))) st
  | _, _ => .bad
def rIs' : R2 := fun x y H Q => (y = .non ∧ Q (.bl (decide (x = .non))) H) ∨ (∃ a b, x = .bl a ∧ y = .bl b ∧ Q (.bl (decide (a = b))) H)
def rIsnot' : R2 := fun x y H Q => (y = .non ∧ Q (.bl (!decide (x = .non))) H) ∨ (∃ a b, x = .bl a ∧ y = .bl b ∧ Q (.bl (!decide (a = b))) H)
theorem op_is' {X : Cx} : OpR X (compareOp .Is) rIs' := OpR.or op_isN op_is_bl
theorem op_isnot' {X : Cx} : OpR X (compareOp .IsNot) rIsnot' := OpR.or op_notN op_isnot_bl
theorem dec_beq (a b : Bool) : decide (a = b) = (a == b) := by cases a <;> cases b <;> rfl
theorem srv_is {Γ : Gm} : Srv2 Γ isD rIs' := by
  intro mp H st d e x y Q W R h1 h2 P
  unfold isD at P
  split at P
  · simp only [Rv] at h2; subst h2
    exact .inl ⟨rfl, post_here P R (by simp [Rv, isNon_of h1])⟩
  · simp only [Rv] at h1 h2; subst h1 h2
    exact .inr ⟨_, _, rfl, rfl, post_here P R (by simp [Rv, dec_beq])⟩
  · exact P.elim
theorem srv_isnot {Γ : Gm} : Srv2 Γ isnotD rIsnot' := by
  intro mp H st d e x y Q W R h1 h2 P
  unfold isnotD at P
  split at P
  · simp only [Rv] at h2; subst h2
    exact .inl ⟨rfl, post_here P R (by simp [Rv, isNon_of h1])⟩
  · simp only [Rv] at h1 h2; subst h1 h2
    exact .inr ⟨_, _, rfl, rfl, post_here P R (by simp [Rv, dec_beq])⟩
  · exact P.elim
end VI
set_option maxHeartbeats 4000000
namespace VI
open PySem PySem.Spec PyProof.Rows L2

structure XR (k : Nat) (X : Cx) : Prop where
  room : Room k X.A
  gd : X.A.guards = some []
theorem XR.mono {j k : Nat} {X : Cx} (r : XR k X) (h : j ≤ k := by decide) : XR j X := ⟨r.room.mono h, r.gd⟩

/-! ### order -/
def intsD : List D → Option (List Int)
  | [] => some []
  | .int i :: ds => (intsD ds).map (i :: ·)
  | _ :: _ => none
theorem ints_of {Γ : Gm} {mp : List Addr} {H : Hp} : ∀ {ds : List D} {ns : List Int} {vs : List V}, RvL Γ mp H ds vs → intsD ds = some ns → vs = ns.map V.int
  | [], ns, vs, h, e => by simp only [RvL, intsD, Option.some.injEq] at h e; subst h e; rfl
  | .int i :: ds, ns, vs, h, e => by
    simp only [RvL, Rv, intsD, Option.map_eq_some_iff] at h e
    obtain ⟨v, r, rfl, rfl, h3⟩ := h
    obtain ⟨ms, e, rfl⟩ := e
    rw [ints_of h3 e]; rfl
  | .non :: _, _, _, _, e | .bl _ :: _, _, _, _, e | .str _ :: _, _, _, _, e | .tup _ :: _, _, _, _, e | .lst _ :: _, _, _, _, e | .dct _ _ :: _, _, _, _, e | .loc _ :: _, _, _, _, e | .gl _ :: _, _, _, _, e | .fz _ :: _, _, _, _, e | .kt _ :: _, _, _, _, e => by simp [intsD] at e
theorem RvL.ints {Γ : Gm} {mp : List Addr} {H : Hp} : ∀ ns : List Int, RvL Γ mp H (ns.map D.int) (ns.map V.int)
  | [] => RvL.nil
  | n :: ns => RvL.cons (by simp [Rv]) (RvL.ints ns)
@[simp] theorem intsD_map (ns : List Int) : intsD (ns.map D.int) = some ns := by
  induction ns with
  | nil => rfl
  | cons n ns ih => simp [intsD, ih]
/-- < of two tuples of ints -/
def tltD (xs ys : List D) : Option Bool := match intsD xs, intsD ys with
  | some ns, some ms => some (HT.lexLt ns ms)
  | _, _ => none
def ltD : F2 := fun d e st => match d, e with
  | .int i, .int j => .ok (.bl (decide (i < j))) st
  | .tup xs, .tup ys => match tltD xs ys with
    | some b => .ok (.bl b) st
    | none => .bad
  | _, _ => .bad
def leD : F2 := fun d e st => match d, e with
  | .int i, .int j => .ok (.bl (decide (i ≤ j))) st
  | _, _ => .bad
def gtD : F2 := fun d e st => match d, e with
  | .int i, .int j => .ok (.bl (decide (j < i))) st
  | _, _ => .bad
def geD : F2 := fun d e st => match d, e with
  | .int i, .int j => .ok (.bl (decide (j ≤ i))) st
  | _, _ => .bad
def rLt' (K : PySem.W.Frag) : R2 := fun x y H Q => rI0 (fun i j => .bl (decide (i < j))) x y H Q ∨ rLtT K x y H Q
theorem op_lt' {X : Cx} {k : Nat} (r : XR k X) : OpR X (compareOp .Lt) (rLt' X.K) := OpR.or op_lt (op_ltT r.room.units0)
theorem srv_lt {Γ : Gm} : Srv2 Γ ltD (rLt' Γ.K) := by
  intro mp H st d e x y Q W R h1 h2 P
  unfold ltD at P
  split at P
  · simp only [Rv] at h1 h2; subst h1 h2
    exact .inl ⟨_, _, rfl, rfl, post_here P R (by simp [Rv])⟩
  · simp only [Rv] at h1 h2
    obtain ⟨a, vs, rfl, ha, ra⟩ := h1
    obtain ⟨b, us, rfl, hb, rb⟩ := h2
    unfold tltD at P
    split at P
    · rename_i b' he
      split at he
      · rename_i ns ms e1 e2
        cases he
        have f1 := ints_of ra e1
        have f2 := ints_of rb e2
        subst f1 f2
        exact .inr ⟨a, b, ns, ms, rfl, rfl, ha.sq, hb.sq, post_here P R (by simp [Rv])⟩
      · cases he
    · exact P.elim
  · exact P.elim
theorem srv_cmpI {Γ : Gm} {f : F2} {p : Int → Int → Bool} (hf : ∀ d e st, f d e st = (match d, e with | .int i, .int j => .ok (.bl (p i j)) st | _, _ => .bad)) : Srv2 Γ f (rI0 fun i j => .bl (p i j)) := by
  intro mp H st d e x y Q W R h1 h2 P
  rw [hf] at P
  split at P
  · simp only [Rv] at h1 h2; subst h1 h2
    exact ⟨_, _, rfl, rfl, post_here P R (by simp [Rv])⟩
  · exact P.elim
theorem srv_le {Γ : Gm} : Srv2 Γ leD (rI0 fun i j => .bl (decide (i ≤ j))) := srv_cmpI fun _ _ _ => rfl
theorem srv_gt {Γ : Gm} : Srv2 Γ gtD (rI0 fun i j => .bl (decide (j < i))) := srv_cmpI fun _ _ _ => rfl
theorem srv_ge {Γ : Gm} : Srv2 Γ geD (rI0 fun i j => .bl (decide (j ≤ i))) := srv_cmpI fun _ _ _ => rfl

/-! ### dicts: keys -/
def keyD : D → Option Key
  | .int i => some (.inl i)
  | .str x => some (.inr x)
  | _ => none
def keysD : List D → Option (List Key)
  | [] => some []
  | d :: ds => match keyD d, keysD ds with
    | some k, some ks => some (k :: ks)
    | _, _ => none
theorem key_of {Γ : Gm} {mp : List Addr} {H : Hp} {d : D} {x : V} {k : Key} (h : Rv Γ mp H d x) (e : keyD d = some k) : x = kV k := by
  cases d with
  | int i => simp only [Rv, keyD, Option.some.injEq] at h e; subst h e; rfl
  | str i => simp only [Rv, keyD, Option.some.injEq] at h e; subst h e; rfl
  | _ => simp [keyD] at e
theorem keys_of {Γ : Gm} {mp : List Addr} {H : Hp} : ∀ {ds : List D} {vs : List V} {ks : List Key}, RvL Γ mp H ds vs → keysD ds = some ks → vs = ks.map kV
  | [], vs, ks, h, e => by simp only [RvL, keysD, Option.some.injEq] at h e; subst h e; rfl
  | d :: ds, vs, ks, h, e => by
    simp only [RvL, keysD] at h e
    obtain ⟨v, r, rfl, h2, h3⟩ := h
    split at e
    · rename_i k ks' e1 e2
      cases e
      rw [key_of h2 e1, keys_of h3 e2]; rfl
    · cases e
def valD {κ : Type} [DecidableEq κ] (kvs : List (κ × D)) (k : κ) : Option D := (kvs.find? fun kv => decide (kv.1 = k)).map (·.2)
def putD {κ : Type} [DecidableEq κ] (kvs : List (κ × D)) (k : κ) (v : D) : List (κ × D) :=
  if (kvs.any fun kv => decide (kv.1 = k)) = true then kvs.map (fun kv => if kv.1 = k then (kv.1, v) else kv) else kvs ++ [(k, v)]
section
variable {Γ : Gm} {mp : List Addr} {H : Hp} {κ : Type} [DecidableEq κ]
theorem val_of : ∀ {kvs : List (κ × D)} {vs : List (κ × V)} {k : κ}, vs.map (·.1) = kvs.map (·.1) → RvL Γ mp H (kvs.map (·.2)) (vs.map (·.2)) →
    (∀ d, valD kvs k = some d → ∃ v, valV vs k = some v ∧ Rv Γ mp H d v) ∧ (valD kvs k = none → valV vs k = none)
  | [], vs, k, e, r => by
    have : vs = [] := by cases vs <;> simp_all
    subst this
    exact ⟨fun d h => by simp [valD] at h, fun _ => rfl⟩
  | p :: kvs, vs, k, e, r => by
    cases vs with
    | nil => simp at e
    | cons q vs =>
      simp only [List.map_cons, List.cons.injEq] at e
      simp only [List.map_cons, RvL] at r
      obtain ⟨v, r', e2, r1, r2⟩ := r
      simp only [List.cons.injEq] at e2
      obtain ⟨rfl, rfl⟩ := e2
      have ih := val_of (k := k) e.2 r2
      by_cases hk : p.1 = k
      · have hq : q.1 = k := e.1.trans hk
        have a1 : valD (p :: kvs) k = some p.2 := by simp [valD, List.find?_cons, hk]
        have a2 : valV (q :: vs) k = some q.2 := by simp [valV, List.find?_cons, hq]
        rw [a1, a2]
        exact ⟨fun d h => by cases h; exact ⟨_, rfl, r1⟩, fun h => by cases h⟩
      · have hq : ¬ q.1 = k := fun z => hk (e.1.symm.trans z)
        have a1 : valD (p :: kvs) k = valD kvs k := by simp [valD, List.find?_cons, hk]
        have a2 : valV (q :: vs) k = valV vs k := by simp [valV, List.find?_cons, hq]
        rw [a1, a2]
        exact ih
theorem val_isSome {kvs : List (κ × D)} {vs : List (κ × V)} {k : κ} (e : vs.map (·.1) = kvs.map (·.1)) (r : RvL Γ mp H (kvs.map (·.2)) (vs.map (·.2))) : (valV vs k).isSome = (valD kvs k).isSome := by
  obtain ⟨h1, h2⟩ := val_of (k := k) e r
  cases q : valD kvs k with
  | none => rw [h2 q]; rfl
  | some d => obtain ⟨v, hv, _⟩ := h1 d q; rw [hv]; rfl
theorem put_of {kvs : List (κ × D)} {vs : List (κ × V)} {k : κ} {d : D} {v : V} (e : vs.map (·.1) = kvs.map (·.1)) (r : RvL Γ mp H (kvs.map (·.2)) (vs.map (·.2))) (rv : Rv Γ mp H d v) :
    (putK vs k v).map (·.1) = (putD kvs k d).map (·.1) ∧ RvL Γ mp H ((putD kvs k d).map (·.2)) ((putK vs k v).map (·.2)) := by
  have any_eq : (kvs.any fun kv => decide (kv.1 = k)) = (vs.any fun kv => decide (kv.1 = k)) := by
    have a1 : (kvs.any fun kv => decide (kv.1 = k)) = (kvs.map (·.1)).any fun x => decide (x = k) := by rw [List.any_map]; rfl
    have a2 : (vs.any fun kv => decide (kv.1 = k)) = (vs.map (·.1)).any fun x => decide (x = k) := by rw [List.any_map]; rfl
    rw [a1, a2, e]
  unfold putK putD
  rw [any_eq]
  split
  · constructor
    · rw [List.map_map, List.map_map]
      have : ∀ {α : Type} (x : α) (l : List (κ × α)), l.map ((fun kv => kv.1) ∘ fun kv => if kv.1 = k then (kv.1, x) else kv) = l.map (·.1) := fun x l => by
        apply List.map_congr_left; intro a _; simp only [Function.comp]; split <;> rfl
      rw [this, this, e]
    · rw [List.map_map, List.map_map]
      clear any_eq
      rename_i hany
      clear hany
      induction kvs generalizing vs with
      | nil => cases vs <;> simp_all [RvL]
      | cons p kvs ih =>
        cases vs with
        | nil => simp at e
        | cons q vs =>
          simp only [List.map_cons, List.cons.injEq] at e
          simp only [List.map_cons, RvL] at r
          obtain ⟨w, r', e2, r1, r2⟩ := r
          simp only [List.cons.injEq] at e2
          obtain ⟨rfl, rfl⟩ := e2
          rw [List.map_cons, List.map_cons]
          refine RvL.cons ?_ (ih e.2 r2)
          show Rv Γ mp H (if p.1 = k then (p.1, d) else p).2 (if q.1 = k then (q.1, v) else q).2
          rw [e.1]
          split <;> assumption
  · constructor
    · simp [e]
    · simp only [List.map_append, List.map_cons, List.map_nil]
      exact r.append (RvL.cons rv RvL.nil)
theorem RvL.zip {ks : List κ} {xs : List D} {vs : List V} (hl : ks.length = vs.length) (r : RvL Γ mp H xs vs) : (ks.zip vs).map (·.1) = (ks.zip xs).map (·.1) ∧ RvL Γ mp H ((ks.zip xs).map (·.2)) ((ks.zip vs).map (·.2)) := by
  have h2 := r.length
  have a1 : (ks.zip vs).map (·.1) = ks := by rw [List.map_fst_zip]; omega
  have a2 : (ks.zip xs).map (·.1) = ks := by rw [List.map_fst_zip]; omega
  have a3 : (ks.zip vs).map (·.2) = vs := by rw [List.map_snd_zip]; omega
  have a4 : (ks.zip xs).map (·.2) = xs := by rw [List.map_snd_zip]; omega
  rw [a1, a2, a3, a4]
  exact ⟨rfl, r⟩
end
/-- what a dict holds at a key: none: no dict, or no key -/
def getD' (d k : D) (st : Mem) : Option (Option D) := match d with
  | .dct ks xs => (keyD k).map fun q => valD (ks.zip xs) q
  | .loc n => match st[n]? with
    | some (.dK kvs) => (keyD k).map fun q => valD kvs q
    | some (.dT kvs) => match k with
      | .tup xs => (keysD xs).map fun q => valD kvs q
      | _ => none
    | _ => none
  | _ => none
theorem get_of {Γ : Gm} {mp : List Addr} {H : Hp} {st : Mem} {d k : D} {x y : V} {o : Option D} (R : RelM Γ mp H st) (h : Rv Γ mp H d x) (hk : Rv Γ mp H k y) (e : getD' d k st = some o) :
    ∃ a o', x = .ref a ∧ DGet H a y o' ∧ o'.isSome = o.isSome ∧ ∀ z, o = some z → ∃ v, o' = some v ∧ Rv Γ mp H z v := by
  unfold getD' at e
  split at e
  · rename_i ks xs
    simp only [Rv] at h
    obtain ⟨a, vs, rfl, q, n, l, r⟩ := h
    simp only [Option.map_eq_some_iff] at e
    obtain ⟨kk, ek, rfl⟩ := e
    obtain ⟨z1, z2⟩ := RvL.zip (κ := Key) l r
    have ey := key_of hk ek
    subst ey
    exact ⟨a, valV (ks.zip vs) kk, rfl, DGet.k q, val_isSome z1 z2, fun z hz => (val_of z1 z2).1 z hz⟩
  · rename_i n
    simp only [Rv] at h
    obtain ⟨a, rfl, hm⟩ := h
    split at e
    · rename_i kvs hs
      obtain ⟨vs, q, z1, z2⟩ := R.cell n _ a hs hm
      simp only [Option.map_eq_some_iff] at e
      obtain ⟨kk, ek, rfl⟩ := e
      have ey := key_of hk ek
      subst ey
      exact ⟨a, valV vs kk, rfl, DGet.k q, val_isSome z1 z2, fun z hz => (val_of z1 z2).1 z hz⟩
    · rename_i kvs hs
      obtain ⟨vs, q, z1, z2⟩ := R.cell n _ a hs hm
      split at e
      · rename_i xs
        simp only [Option.map_eq_some_iff] at e
        obtain ⟨kk, ek, rfl⟩ := e
        simp only [Rv] at hk
        obtain ⟨b, us, rfl, hb, rb⟩ := hk
        have ey := keys_of rb ek
        subst ey
        exact ⟨a, valV vs kk, rfl, DGet.t q hb.1, val_isSome z1 z2, fun z hz => (val_of z1 z2).1 z hz⟩
      · cases e
    · cases e
  · cases e

/-! ### in -/
def rInDict (neg : Bool) : R2 := fun x y H Q => ∃ a ov, y = .ref a ∧ DGet H a x ov ∧ Q (.bl (if neg then !ov.isSome else ov.isSome)) H
theorem op_inDict {X : Cx} {k : Nat} (r : XR k X) : OpR X (compareOp .In) (rInDict false) := by
  intro pins s σ H x y v u Q I rx ry h
  obtain ⟨a, ov, rfl, g, q⟩ := h
  cases ry
  exact d_in (by have := r.room.units; omega) I g rx fun s3 I3 => ⟨.bl ov.isSome, H, I3, rfl, q⟩
theorem op_notInDict {X : Cx} {k : Nat} (r : XR k X) : OpR X (compareOp .NotIn) (rInDict true) := by
  intro pins s σ H x y v u Q I rx ry h
  obtain ⟨a, ov, rfl, g, q⟩ := h
  cases ry
  exact d_notIn (by have := r.room.units; omega) I g rx fun s3 I3 => ⟨.bl (!ov.isSome), H, I3, rfl, q⟩
def flatD : D → Bool
  | .non => true
  | .bl _ => true
  | .int _ => true
  | .str _ => true
  | _ => false
theorem flat_of {Γ : Gm} {mp : List Addr} {H : Hp} {d : D} {x : V} (h : Rv Γ mp H d x) (f : flatD d = true) : flatV x = true := by
  cases d <;> simp only [Rv] at h <;> first | (subst h; rfl) | cases f
theorem eqV_of {Γ : Gm} {mp : List Addr} {H : Hp} {d e : D} {x y : V} (h1 : Rv Γ mp H d x) (h2 : Rv Γ mp H e y) (f1 : flatD d = true) (f2 : flatD e = true) : eqV x y = eqvD d e := by
  cases d <;> first | exact absurd f1 Bool.false_ne_true | (cases e <;> first | exact absurd f2 Bool.false_ne_true | (simp only [Rv] at h1 h2; subst h1 h2; simp [eqV, eqvD]))
theorem flatL_of {Γ : Gm} {mp : List Addr} {H : Hp} : ∀ {ds : List D} {vs : List V}, RvL Γ mp H ds vs → ds.all flatD = true → vs.all flatV = true
  | [], vs, h, _ => by simp only [RvL] at h; subst h; rfl
  | d :: ds, vs, h, f => by
    simp only [RvL] at h
    obtain ⟨v, r, rfl, h2, h3⟩ := h
    simp only [List.all_cons, Bool.and_eq_true] at f ⊢
    exact ⟨flat_of h2 f.1, flatL_of h3 f.2⟩
theorem inV_of {Γ : Gm} {mp : List Addr} {H : Hp} {d : D} {x : V} (h1 : Rv Γ mp H d x) (f1 : flatD d = true) : ∀ {ds : List D} {vs : List V}, RvL Γ mp H ds vs → ds.all flatD = true → inV x vs = ds.any fun z => eqvD z d
  | [], vs, h, _ => by simp only [RvL] at h; subst h; rfl
  | e :: ds, vs, h, f => by
    simp only [RvL] at h
    obtain ⟨v, r, rfl, h2, h3⟩ := h
    simp only [List.all_cons, Bool.and_eq_true] at f
    have ih := inV_of h1 f1 h3 f.2
    unfold inV at ih ⊢
    rw [List.any_cons, List.any_cons, ih, eqV_of h2 h1 f.1 f1]
/-- whether it is in -/
def memD (d e : D) (st : Mem) : Option Bool := match e with
  | .str y => match d with
    | .str x => match x.cps.toList with
      | [c] => some (decide (c ∈ y.cps.toList))
      | _ => some (!(Builtin.Str.occurrences y x 0 y.length 1).isEmpty)
    | _ => none
  | e => match seqD e st with
    | some xs =>
      if flatD d && xs.all flatD then some (xs.any fun z => eqvD z d)
      else match lstD e st with
        | some xs => if okD 12 d && okDL 11 xs then some (xs.any fun z => eqvD z d) else none
        | none => none
    | none => (getD' e d st).map (·.isSome)
def rMem (K : PySem.W.Frag) (neg : Bool) : R2 := fun x y H Q =>
  ((∃ (c : Nat) (z : Str), x = .str ⟨#[c]⟩ ∧ y = .str z ∧ Q (.bl (if neg then !decide (c ∈ z.cps.toList) else decide (c ∈ z.cps.toList))) H) ∨
    (∃ i j, x = .str i ∧ y = .str j ∧ Q (.bl (if neg then !(!(Builtin.Str.occurrences j i 0 j.length 1).isEmpty) else !(Builtin.Str.occurrences j i 0 j.length 1).isEmpty)) H)) ∨
  (rIn K neg x y H Q ∨ ((if neg then rNotInD K else rInD K) x y H Q ∨ rInDict neg x y H Q))
theorem op_mem {X : Cx} {k : Nat} (r : XR (k + 1) X) : OpR X (compareOp .In) (rMem X.K false) :=
  OpR.or (OpR.or op_in_sign op_in_str) (OpR.or op_in_seq (OpR.or (op_inD (by have := r.room.un; omega)) (op_inDict r)))
theorem op_notmem {X : Cx} {k : Nat} (r : XR (k + 1) X) : OpR X (compareOp .NotIn) (rMem X.K true) :=
  OpR.or (OpR.or op_notIn_sign op_notin_str) (OpR.or op_notIn_seq (OpR.or (op_notInD (by have := r.room.un; omega)) (op_notInDict r)))
def inD : F2 := fun d e st => match memD d e st with
  | some b => .ok (.bl b) st
  | none => .bad
def notinD : F2 := fun d e st => match memD d e st with
  | some b => .ok (.bl (!b)) st
  | none => .bad
theorem any_py {ds : List D} {e : D} {ps : List PyData} {q : PyData} (h : toPyL ds = some ps) (he : toPy e = some q) : (ps.any fun z => PyData.eqv z q) = ds.any fun z => eqvD z e := by
  induction ds generalizing ps with
  | nil => simp only [toPyL, Option.some.injEq] at h; subst h; rfl
  | cons d ds ih =>
    simp only [toPyL] at h
    split at h
    · rename_i p ps' e1 e2
      cases h
      rw [List.any_cons, List.any_cons, ih e2, eqvD_py d e p q e1 he]
    · cases h
theorem mem_of {Γ : Gm} {mp : List Addr} {H : Hp} {st : Mem} {d e : D} {x y : V} {Q : VK} {b : Bool} (neg : Bool) (R : RelM Γ mp H st) (h1 : Rv Γ mp H d x) (h2 : Rv Γ mp H e y) (hb : memD d e st = some b)
    (q : Q (.bl (if neg then !b else b)) H) : rMem Γ.K neg x y H Q := by
  unfold memD at hb
  split at hb
  · rename_i ys
    split at hb
    · rename_i xs
      simp only [Rv] at h1 h2; subst h1 h2
      split at hb
      · rename_i c hc
        cases hb
        refine .inl (.inl ⟨c, ys, ?_, rfl, q⟩)
        congr 1
        cases xs
        congr 1
        exact Array.ext' (by simpa using hc)
      · cases hb
        exact .inl (.inr ⟨xs, ys, rfl, rfl, q⟩)
    · cases hb
  · split at hb
    · rename_i xs hs
      obtain ⟨a, vs, rfl, ha, ra⟩ := seqD_of R h2 hs
      split at hb
      · rename_i hc
        simp only [Bool.and_eq_true] at hc
        cases hb
        refine .inr (.inl ⟨a, vs, rfl, ha, flat_of h1 hc.1, flatL_of ra hc.2, ?_⟩)
        rw [inV_of h1 hc.1 ra hc.2]
        exact q
      · split at hb
        · rename_i zs hz
          obtain ⟨b', us, eb, hb', rb⟩ := lstD_of R h2 hz
          split at hb
          · rename_i hc
            simp only [Bool.and_eq_true] at hc
            cases hb
            obtain ⟨p, e1, c1, l1⟩ := okD_py _ _ hc.1
            obtain ⟨ps, e2, c2, l2⟩ := okDL_py _ _ hc.2
            cases eb
            refine .inr (.inr (.inl ?_))
            have D1 := dp_of _ _ _ h1 e1
            have D2 : Dp Γ.K H (.ref a) (.list ps) := .lst hb' (dpL_of _ _ _ rb e2)
            have s1 := shaped_of c1 l1 (by decide)
            have s2 : SeqAt.shaped (.list ps) = true := shaped_of (n := 12) (by simpa [PyData.canLay0] using c2) (by simp only [PyData.depth]; omega) (by decide)
            have ee := any_py e2 e1
            cases neg with
            | true => exact ⟨p, ps, D1, D2, s1, s2, by rw [ee]; exact q⟩
            | false => exact ⟨p, ps, D1, D2, s1, s2, by rw [ee]; exact q⟩
          · cases hb
        · cases hb
    · simp only [Option.map_eq_some_iff] at hb
      obtain ⟨o, ho, rfl⟩ := hb
      obtain ⟨a, o', rfl, g, es, _⟩ := get_of R h2 h1 ho
      exact .inr (.inr (.inr ⟨a, o', rfl, g, by rw [es]; exact q⟩))
theorem srv_in {Γ : Gm} : Srv2 Γ inD (rMem Γ.K false) := by
  intro mp H st d e x y Q W R h1 h2 P
  unfold inD at P
  split at P
  · rename_i b hb
    exact mem_of false R h1 h2 hb (post_here P R (by simp [Rv]))
  · exact P.elim
theorem srv_notin {Γ : Gm} : Srv2 Γ notinD (rMem Γ.K true) := by
  intro mp H st d e x y Q W R h1 h2 P
  unfold notinD at P
  split at P
  · rename_i b hb
    exact mem_of true R h1 h2 hb (post_here P R (by simp [Rv]))
  · exact P.elim

/-! ### subscripts -/
def rGetD : R2 := fun x y H Q => ∃ a v, x = .ref a ∧ DGet H a y (some v) ∧ Q v H
theorem ix_dict {X : Cx} {k : Nat} (r : XR k X) : IxR X rGetD := by
  intro value slice pins s σ H x y v u Q I rx ry h hs
  obtain ⟨a, w, rfl, g, q⟩ := h
  cases rx
  exact tail_any (dict_typeIs I g) PySem.F.slot_dict_getitem.lookup (d_getItem (by have := r.room.units; omega) I g ry fun w' s3 I3 rw' => ⟨w, H, I3, rw', q⟩) hs
def rIx' (K : PySem.W.Frag) : R2 := fun x y H Q => (rIxL K x y H Q ∨ rIxT K x y H Q) ∨ (rIxS x y H Q ∨ rGetD x y H Q)
theorem ix_all {X : Cx} {k : Nat} (r : XR k X) : IxR X (rIx' X.K) := IxR.or (IxR.or ix_list ix_tup) (IxR.or ix_str (ix_dict r))
theorem atI_rel {Γ : Gm} {mp : List Addr} {H : Hp} {ds : List D} {vs : List V} {i : Int} {d : D} (r : RvL Γ mp H ds vs) (h : atI ds i = some d) : ∃ v, atI vs i = some v ∧ Rv Γ mp H d v := by
  unfold atI at h ⊢
  rw [← r.length]
  cases e : ixN ds.length i with
  | none => rw [e] at h; cases h
  | some j =>
    rw [e] at h
    obtain ⟨v, h1, h2⟩ := r.get (i := j) h
    exact ⟨v, h1, h2⟩
def ixD : F2 := fun d e st => match d with
  | .str x => match e with
    | .int i => if x.length ≤ LINE then (match atI x.cps.toList i with
      | some c => .ok (.str ⟨#[c]⟩) st
      | none => .bad) else .bad
    | _ => .bad
  | d => match seqD d st with
    | some xs => match e with
      | .int i => match atI xs i with
        | some z => .ok z st
        | none => .bad
      | _ => .bad
    | none => match getD' d e st with
      | some (some z) => .ok z st
      | _ => .bad
theorem srv_ix {Γ : Gm} : Srv2 Γ ixD (rIx' Γ.K) := by
  intro mp H st d e x y Q W R h1 h2 P
  unfold ixD at P
  split at P
  · split at P
    · simp only [Rv] at h1 h2; subst h1 h2
      split at P
      · rename_i hl
        split at P
        · rename_i c hc
          exact .inr (.inl ⟨_, _, c, rfl, rfl, line_le hl, hc, post_here P R (by simp [Rv])⟩)
        · exact P.elim
      · exact P.elim
    · exact P.elim
  · split at P
    · rename_i xs hs
      obtain ⟨a, vs, rfl, ha, ra⟩ := seqD_of R h1 hs
      split at P
      · simp only [Rv] at h2; subst h2
        split at P
        · rename_i z hz
          obtain ⟨v, hv, rz⟩ := atI_rel ra hz
          have q := post_here P R rz
          rcases ha with ha | ha
          · exact .inl (.inl ⟨a, vs, _, v, rfl, rfl, ha, hv, q⟩)
          · exact .inl (.inr ⟨a, vs, _, v, rfl, rfl, ha, hv, q⟩)
        · exact P.elim
      · exact P.elim
    · split at P
      · rename_i z hz
        obtain ⟨a, o', rfl, g, _, gv⟩ := get_of R h1 h2 hz
        obtain ⟨v, rfl, rv⟩ := gv z rfl
        exact .inr (.inr ⟨a, v, rfl, g, post_here P R rv⟩)
      · exact P.elim
/-! slices -/
abbrev MO := Env → Mem → Res (Option Int)
abbrev RO : List Addr → Hp → Option Int → Option Int → Prop := fun _ _ a b => a = b
structure SO (X : Cx) (e : Option Expr) (m : MO) : Prop where
  run : ∀ W, Takes X W → PO X e (tG (gm X) RO W m)
theorem PO.imp {X : Cx} {e : Option Expr} {t t' : TO} (h : PO X e t) (i : ∀ σ H Q, t' σ H Q → t σ H Q) : PO X e t' := ⟨fun pins s σ H Q I q => h.run pins s σ H Q I (i σ H Q q)⟩
def mNoPart : MO := fun _ st => .ok none st
def resI : D → Mem → Res (Option Int)
  | .int i, st => .ok (some i) st
  | _, _ => .bad
def mPart (m : ME) : MO := fun ρ st => (m ρ st).bind resI
def cutD (xs : List D) (lo hi : Option Int) : List D := (xs.drop (HT.sIx xs.length 0 lo)).take (HT.sIx xs.length xs.length hi - HT.sIx xs.length 0 lo)
def sliceD (mk : List D → Mem → Res D) (d : D) (lo hi : Option Int) (st : Mem) : Res D := match d with
  | .tup xs => .ok (.tup (cutD xs lo hi)) st
  | .str z => if z.length ≤ LINE then .ok (.str (cutS z lo hi)) st else .bad
  | d => match lstD d st with
    | some xs => mk (cutD xs lo hi) st
    | none => .bad
def mSlice (mk : List D → Mem → Res D) (m : ME) (lo hi : MO) : ME := fun ρ st => (m ρ st).bind fun d st1 => (lo ρ st1).bind fun l st2 => (hi ρ st2).bind fun h st3 => sliceD mk d l h st3
theorem cut_rel {Γ : Gm} {mp : List Addr} {H : Hp} {ds : List D} {vs : List V} (r : RvL Γ mp H ds vs) (lo hi : Option Int) : RvL Γ mp H (cutD ds lo hi) (cutV vs lo hi) := by
  unfold cutD cutV
  rw [r.length]
  exact (r.drop _).take _
section
variable {X : Cx} {e : Expr} {m : ME} {lo hi : Option Expr} {ml mh : MO} {pos p2 : Pos}
theorem so_none : SO X none mNoPart := ⟨fun W tk => PO.imp po_none fun σ H Q ⟨mp, st, ρ, R, E, P⟩ => P mp H none (Ext.refl _ _) R rfl⟩
theorem so_some (h : SE X e m) : SO X (some e) (mPart m) := ⟨fun W tk => PO.imp (po_some (h.run W tk)) fun σ H Q q => by
  obtain ⟨mp, st, ρ, R, E, P⟩ := tG_bind (Rel := Rv (gm X)) (m := m) (k := fun _ => resI) q
  refine ⟨mp, st, ρ, R, E, P.mono fun x H1 ⟨mp1, st1, ρ1, d, R1, E1, r1, P1⟩ => ?_⟩
  cases d with
  | int i => simp only [Rv] at r1; exact ⟨i, r1, P1 mp1 H1 _ (Ext.refl _ _) R1 rfl⟩
  | _ => exact P1.elim⟩
def rSl' (K : PySem.W.Frag) : V → Option Int → Option Int → Hp → VK → Prop := fun x lo hi H Q => rSlA K x lo hi H Q ∨ (rSlS x lo hi H Q ∨ rSlL K x lo hi H Q)
theorem sl_all : SlR X (rSl' X.K) := SlR.or sl_tupA (SlR.or sl_str sl_list)
theorem slice_of {Γ : Gm} {mk : List D → Mem → Res D} (hk : MkOk mk) {mp : List Addr} {H : Hp} {st : Mem} {d : D} {x : V} {l h : Option Int} {Q : VK} {W : XK} (R : RelM Γ mp H st) (rd : Rv Γ mp H d x)
    (P : Post Γ mp H (sliceD mk d l h st) Q W) : rSl' Γ.K x l h H Q := by
  unfold sliceD at P
  split at P
  · rename_i xs
    have rd' := rd
    simp only [Rv] at rd
    obtain ⟨a, vs, rfl, ha, ra⟩ := rd
    refine .inl ⟨a, vs, rfl, ha.sq, fun hw => ?_, fun _ => post_tup P R (cut_rel ra _ _)⟩
    have : cutD xs l h = xs := by
      unfold cutD
      rw [ra.length, hw.1, hw.2, List.drop_zero, Nat.sub_zero, ← ra.length, List.take_length]
    rw [this] at P
    exact post_here P R rd'
  · rename_i z
    simp only [Rv] at rd; subst rd
    split at P
    · rename_i hz
      exact .inr (.inl ⟨z, rfl, line_le hz, post_here P R (by simp [Rv])⟩)
    · exact P.elim
  · split at P
    · rename_i xs hs
      obtain ⟨a, vs, rfl, ha, ra⟩ := lstD_of R rd hs
      exact .inr (.inr ⟨a, vs, rfl, ha, hk Γ mp H st Q W _ _ R (cut_rel ra _ _) P⟩)
    · exact P.elim
theorem se_slice {mk : List D → Mem → Res D} (hk : MkOk mk) (he : SE X e m) (hl : SO X lo ml) (hu : SO X hi mh) : SE X (.Subscript e (.Slice lo hi none p2) pos) (mSlice mk m ml mh) :=
  ⟨fun W tk => PE.imp (pe_slice sl_all (he.run W tk) (hl.run W tk) (hu.run W tk)) fun σ H Q q => by
    obtain ⟨mp, st, ρ, R, E, P⟩ := tG_bind (Rel := Rv (gm X)) (m := m) (k := fun ρ d st1 => (ml ρ st1).bind fun l st2 => (mh ρ st2).bind fun h st3 => sliceD mk d l h st3) q
    refine ⟨mp, st, ρ, R, E, P.mono fun x H1 ⟨mp1, st1, ρ1, d, R1, E1, r1, P1⟩ => ?_⟩
    obtain ⟨mp2, st2, ρ2, R2, E2, P2⟩ := tG_bindK (Rel := RO) (m := ml) R1 E1 P1
    refine ⟨mp2, st2, ρ2, R2, E2, P2.mono fun l H2 ⟨mp3, st3, l', _, x3, R3, E3, r3, P3⟩ => ?_⟩
    cases r3
    obtain ⟨mp4, st4, ρ4, R4, E4, P4⟩ := tG_bindK (Rel := RO) (m := mh) R3 E3 P3
    refine ⟨mp4, st4, ρ4, R4, E4, P4.mono fun h H5 ⟨mp5, st5, h', _, x5, R5, E5, r5, P5⟩ => ?_⟩
    cases r5
    exact slice_of hk R5 (Rv.ext (x3.trans x5) _ _ r1) P5⟩
end
end VI
set_option maxHeartbeats 4000000
namespace VI
open PySem PySem.Spec PyProof.Rows L2

/-! ### argument lists, displays -/
section
variable {X : Cx} {e : Expr} {es : List Expr} {m : ME} {ms : List ME} {pos : Pos}
theorem sa_nil : SA X [] [] := ⟨fun W tk => PA.imp pa_nil fun σ H Q ⟨mp, st, ρ, R, E, P⟩ => P mp H [] (Ext.refl _ _) R RvL.nil, rfl⟩
theorem sa_cons (he : SE X e m) (hr : SA X es ms) (hs : starEach (e :: es) X.env = (false, eval e X.env) :: starEach es X.env := by rfl) : SA X (e :: es) (m :: ms) :=
  ⟨fun W tk => PA.imp (pa_cons (he.run W tk) (hr.run W tk) hs) fun σ H Q q => by
    obtain ⟨mp, st, ρ, R, E, P⟩ := tG_bind (Rel := Rv (gm X)) (m := m) (k := fun ρ d st1 => (mArgs ms ρ st1).bind fun ds st2 => .ok (d :: ds) st2) q
    refine ⟨mp, st, ρ, R, E, P.mono fun x H1 ⟨mp1, st1, ρ1, d, R1, E1, r1, P1⟩ => ?_⟩
    obtain ⟨mp2, st2, ρ2, R2, E2, P2⟩ := tG_bindK (Rel := RvL (gm X)) (m := mArgs ms) R1 E1 P1
    refine ⟨mp2, st2, ρ2, R2, E2, P2.mono fun xs H2 ⟨mp3, st3, ds, _, x3, R3, E3, r3, P3⟩ => ?_⟩
    exact P3 mp3 H2 _ (Ext.refl _ _) R3 (RvL.cons (Rv.ext x3 _ _ r1) r3), by simp [hr.len]⟩
/-- what stands over an argument list -/
theorem tA_of {Γ : Gm} {W : WX} {σ : L2.St} {H : Hp} {Q : VK} {f : List D → Mem → Res D} (h : tE Γ W (fun ρ st => (mArgs ms ρ st).bind f) σ H Q) :
    tL Γ W (mArgs ms) σ H (fun xs H1 => ∃ mp1 st1 ds, ds.length = ms.length ∧ RelM Γ mp1 H1 st1 ∧ RvL Γ mp1 H1 ds xs ∧ Post Γ mp1 H1 (f ds st1) Q (fun c d H' => W c d σ H')) := by
  obtain ⟨mp, st, ρ, R, E, P⟩ := h
  exact ⟨mp, st, ρ, R, E, P.bind'.mono fun xs H1 ⟨mp1, st1, ds, q, e, R1, r, P1⟩ => ⟨mp1, st1, ds, mArgs_len q, R1, r, P1⟩⟩
def mTup (ms : List ME) : ME := fun ρ st => (mArgs ms ρ st).bind fun ds st1 => .ok (.tup ds) st1
def mLst (mk : List D → Mem → Res D) (ms : List ME) : ME := fun ρ st => (mArgs ms ρ st).bind mk
theorem se_tup {x1 : Nat} (h : SA X es ms) (hl : ms.length ≤ 1000) : SE X (.Tuple es x1 pos) (mTup ms) := ⟨fun W tk => PE.imp (pe_tup (h.run W tk)) fun σ H Q q => by
  obtain ⟨mp, st, ρ, R, E, P⟩ := tA_of q
  refine ⟨mp, st, ρ, R, E, P.mono fun xs H1 ⟨mp1, st1, ds, hd, R1, r, P1⟩ => ⟨line_le (by rw [← r.length, hd]; exact Nat.le_trans hl (by decide)), post_tup P1 R1 r⟩⟩⟩
theorem se_lst {mk : List D → Mem → Res D} (hk : MkOk mk) (h : SA X es ms) (hl : ms.length ≤ 1000) : SE X (.List es pos) (mLst mk ms) := ⟨fun W tk => PE.imp (pe_lst (h.run W tk)) fun σ H Q q => by
  obtain ⟨mp, st, ρ, R, E, P⟩ := tA_of q
  refine ⟨mp, st, ρ, R, E, P.mono fun xs H1 ⟨mp1, st1, ds, hd, R1, r, P1⟩ => ⟨line_le (by rw [← r.length, hd]; exact Nat.le_trans hl (by decide)), hk (gm X) mp1 H1 st1 Q _ ds xs R1 r P1⟩⟩⟩

/-! ### calls of built-ins by values -/
abbrev FL := List D → Mem → Res D
def SrvL (Γ : Gm) (f : FL) (r : List V → Hp → VK → Prop) : Prop := ∀ mp H st ds xs (Q : VK) (W : XK), RelM Γ mp H st → RvL Γ mp H ds xs → Post Γ mp H (f ds st) Q W → r xs H Q
def mF (f : FL) (ms : List ME) : ME := fun ρ st => (mArgs ms ρ st).bind f
theorem tCB_of {Γ : Gm} {W : WX} {σ : L2.St} {H : Hp} {Q : VK} {f : FL} {r : List V → Hp → VK → Prop} (hf : SrvL Γ f r) (h : tE Γ W (mF f ms) σ H Q) : tCB r (tL Γ W (mArgs ms)) σ H Q := by
  obtain ⟨mp, st, ρ, R, E, P⟩ := tA_of h
  exact ⟨mp, st, ρ, R, E, P.mono fun xs H1 ⟨mp1, st1, ds, hd, R1, r1, P1⟩ => hf _ _ _ _ _ _ _ R1 r1 P1⟩
variable {x : Str} {p : Pos} {id T : String} {f : FL} {r : List V → Hp → VK → Prop}
theorem se_callB (hc : CallR X (.builtin id) r) (hf : SrvL (gm X) f r) (hv : bootBuiltins x = some (.builtin id)) (hg : Gl X x) (hm : X.mg x = none) (ha : SA X (e :: es) ms) (hn : x ≠ "__name__" := by decide) (hdb : (x == ("__debug__" : Str)) = false := by decide)
    (he : starEach (e :: es) X.env = (false, eval e X.env) :: starEach es X.env := by rfl) (hpl : (backTo pos (starEach es X.env)).any (·.1) = false := by rfl) : SE X (.Call (.Name x p) (e :: es) [] pos) (mF f ms) :=
  ⟨fun W tk => PE.imp (pe_callB hc hg hm hv (ha.run W tk) hn hdb he hpl) fun σ H Q q => tCB_of hf q⟩
theorem se_callTy (hc : CallR X (.type T) r) (hf : SrvL (gm X) f r) (hv : bootBuiltins x = some (.type T)) (hg : Gl X x) (hm : X.mg x = none) (ha : SA X (e :: es) ms) (hn : x ≠ "__name__" := by decide) (hdb : (x == ("__debug__" : Str)) = false := by decide)
    (he : starEach (e :: es) X.env = (false, eval e X.env) :: starEach es X.env := by rfl) (hpl : (backTo pos (starEach es X.env)).any (·.1) = false := by rfl) : SE X (.Call (.Name x p) (e :: es) [] pos) (mF f ms) :=
  ⟨fun W tk => PE.imp (pe_callTy hc hg hm hv (ha.run W tk) hn hdb he hpl) fun σ H Q q => tCB_of hf q⟩
end
section
variable {Γ : Gm} {mp : List Addr} {H : Hp}
theorem RvL.one {d : D} {xs : List V} (h : RvL Γ mp H [d] xs) : ∃ v, xs = [v] ∧ Rv Γ mp H d v := by
  simp only [RvL] at h
  obtain ⟨v, r, rfl, h2, rfl⟩ := h
  exact ⟨v, rfl, h2⟩
theorem RvL.two {d e : D} {xs : List V} (h : RvL Γ mp H [d, e] xs) : ∃ v u, xs = [v, u] ∧ Rv Γ mp H d v ∧ Rv Γ mp H e u := by
  simp only [RvL] at h
  obtain ⟨v, r, rfl, h2, u, r2, rfl, h4, rfl⟩ := h
  exact ⟨v, u, rfl, h2, h4⟩
end
/-- one argument, two -/
def f1 (f : F1) : FL := fun ds st => match ds with
  | [d] => f d st
  | _ => .bad
def f2 (f : F2) : FL := fun ds st => match ds with
  | [d, e] => f d e st
  | _ => .bad
theorem srvL1 {Γ : Gm} {f : F1} {r : List V → Hp → VK → Prop} (h : Srv1 Γ f fun x H Q => r [x] H Q) : SrvL Γ (f1 f) r := by
  intro mp H st ds xs Q W R rl P
  unfold f1 at P
  split at P
  · obtain ⟨v, rfl, rv⟩ := rl.one
    exact h mp H st _ v Q W R rv P
  · exact P.elim
theorem srvL2 {Γ : Gm} {f : F2} {r : List V → Hp → VK → Prop} (h : Srv2 Γ f fun x y H Q => r [x, y] H Q) : SrvL Γ (f2 f) r := by
  intro mp H st ds xs Q W R rl P
  unfold f2 at P
  split at P
  · obtain ⟨v, u, rfl, rv, ru⟩ := rl.two
    exact h mp H st _ _ v u Q W R rv ru P
  · exact P.elim
/-! len -/
def lenD : F1 := fun d st => match d with
  | .str x => if x.length ≤ LINE then .ok (.int (x.length : Nat)) st else .bad
  | .dct ks xs => if ks.length = xs.length then .ok (.int (ks.length : Nat)) st else .bad
  | .loc n => match st[n]? with
    | some (.lst xs) => .ok (.int (xs.length : Nat)) st
    | some (.dK kvs) => .ok (.int (kvs.length : Nat)) st
    | _ => .bad
  | d => match seqD d st with
    | some xs => .ok (.int (xs.length : Nat)) st
    | none => .bad
def rLen' (K : PySem.W.Frag) : List V → Hp → VK → Prop := fun xs H Q => (∃ x n, xs = [x] ∧ LenV K x H n ∧ Q (.int n) H) ∨ ∃ a kvs, xs = [V.ref a] ∧ H a = some (.dK kvs) ∧ Q (.int kvs.length) H
theorem call_len' {X : Cx} : CallR X (.builtin "len") (rLen' X.K) := CallR.or call_len call_lenD
theorem srv_len {Γ : Gm} : SrvL Γ (f1 lenD) (rLen' Γ.K) := srvL1 (by
  intro mp H st d x Q W R h P
  unfold lenD at P
  split at P
  · simp only [Rv] at h; subst h
    split at P
    · rename_i hl
      exact .inl ⟨_, _, rfl, ⟨line_le hl, rfl⟩, post_here P R (by simp [Rv])⟩
    · exact P.elim
  · rename_i ks xs
    simp only [Rv] at h
    obtain ⟨a, vs, rfl, q, n, l, r⟩ := h
    split at P
    · refine .inr ⟨a, _, rfl, q, post_here P R ?_⟩
      simp only [Rv, List.length_zip, ← l, Nat.min_self]
    · exact P.elim
  · rename_i n
    simp only [Rv] at h
    obtain ⟨a, rfl, hm⟩ := h
    split at P
    · rename_i xs hs
      obtain ⟨vs, q, r⟩ := R.cell n _ a hs hm
      exact .inl ⟨_, vs.length, rfl, .inl ⟨vs, SqL.of q, rfl⟩, post_here P R (by simp [Rv, r.length])⟩
    · rename_i kvs hs
      obtain ⟨vs, q, k', r⟩ := R.cell n _ a hs hm
      have hl := congrArg List.length k'
      simp only [List.length_map] at hl
      exact .inr ⟨a, vs, rfl, q, post_here P R (by simp [Rv, hl])⟩
    · exact P.elim
  · split at P
    · rename_i xs hs
      obtain ⟨a, vs, rfl, ha, ra⟩ := seqD_of R h hs
      refine .inl ⟨_, vs.length, rfl, ?_, post_here P R (by simp [Rv, ra.length])⟩
      rcases ha with ha | ha
      · exact .inl ⟨vs, ha, rfl⟩
      · exact .inr ⟨vs, ha, rfl⟩
    · exact P.elim)
/-! all, any, sum -/
def boolsD : List D → Option (List Bool)
  | [] => some []
  | .bl i :: ds => (boolsD ds).map (i :: ·)
  | _ :: _ => none
theorem bools_of {Γ : Gm} {mp : List Addr} {H : Hp} : ∀ {ds : List D} {ns : List Bool} {vs : List V}, RvL Γ mp H ds vs → boolsD ds = some ns → vs = ns.map V.bl
  | [], ns, vs, h, e => by simp only [RvL, boolsD, Option.some.injEq] at h e; subst h e; rfl
  | .bl i :: ds, ns, vs, h, e => by
    simp only [RvL, Rv, boolsD, Option.map_eq_some_iff] at h e
    obtain ⟨v, r, rfl, rfl, h3⟩ := h
    obtain ⟨ms, e, rfl⟩ := e
    rw [bools_of h3 e]; rfl
  | .non :: _, _, _, _, e | .int _ :: _, _, _, _, e | .str _ :: _, _, _, _, e | .tup _ :: _, _, _, _, e | .lst _ :: _, _, _, _, e | .dct _ _ :: _, _, _, _, e | .loc _ :: _, _, _, _, e | .gl _ :: _, _, _, _, e | .fz _ :: _, _, _, _, e | .kt _ :: _, _, _, _, e => by simp [boolsD] at e
@[simp] theorem boolsD_map (ns : List Bool) : boolsD (ns.map D.bl) = some ns := by
  induction ns with
  | nil => rfl
  | cons n ns ih => simp [boolsD, ih]
def allD : F1 := fun d st => match lstD d st with
  | some xs => match boolsD xs with
    | some bs => .ok (.bl (bs.all id)) st
    | none => .bad
  | none => .bad
def anyD : F1 := fun d st => match lstD d st with
  | some xs => match boolsD xs with
    | some bs => .ok (.bl (bs.any id)) st
    | none => .bad
  | none => .bad
def sumD : F1 := fun d st => match lstD d st with
  | some xs => match intsD xs with
    | some bs => .ok (.int bs.sum) st
    | none => .bad
  | none => .bad
theorem srv_all {Γ : Gm} : SrvL Γ (f1 allD) (rAll Γ.K) := srvL1 (by
  intro mp H st d x Q W R h P
  unfold allD at P
  split at P
  · rename_i xs hs
    obtain ⟨a, vs, rfl, ha, ra⟩ := lstD_of R h hs
    split at P
    · rename_i bs hb
      have := bools_of ra hb
      subst this
      exact ⟨a, bs, rfl, ha, post_here P R (by simp [Rv])⟩
    · exact P.elim
  · exact P.elim)
theorem srv_any {Γ : Gm} : SrvL Γ (f1 anyD) (rAny Γ.K) := srvL1 (by
  intro mp H st d x Q W R h P
  unfold anyD at P
  split at P
  · rename_i xs hs
    obtain ⟨a, vs, rfl, ha, ra⟩ := lstD_of R h hs
    split at P
    · rename_i bs hb
      have := bools_of ra hb
      subst this
      exact ⟨a, bs, rfl, ha, post_here P R (by simp [Rv])⟩
    · exact P.elim
  · exact P.elim)
theorem srv_sum {Γ : Gm} : SrvL Γ (f1 sumD) (rSum Γ.K) := srvL1 (by
  intro mp H st d x Q W R h P
  unfold sumD at P
  split at P
  · rename_i xs hs
    obtain ⟨a, vs, rfl, ha, ra⟩ := lstD_of R h hs
    split at P
    · rename_i bs hb
      have := ints_of ra hb
      subst this
      exact ⟨a, bs, rfl, ha, post_here P R (by simp [Rv])⟩
    · exact P.elim
  · exact P.elim)
/-! min, max -/
def minD : F2 := fun d e st => match d, e with
  | .int i, .int j => .ok (.int (if j < i then j else i)) st
  | _, _ => .bad
def maxD : F2 := fun d e st => match d, e with
  | .int i, .int j => .ok (.int (if j > i then j else i)) st
  | _, _ => .bad
theorem srv_min {Γ : Gm} : SrvL Γ (f2 minD) (fun xs H Q => ∃ i j, xs = [.int i, .int j] ∧ Q (.int (if j < i then j else i)) H) := srvL2 (by
  intro mp H st d e x y Q W R h1 h2 P
  unfold minD at P
  split at P
  · simp only [Rv] at h1 h2; subst h1 h2
    exact ⟨_, _, rfl, post_here P R (by simp [Rv])⟩
  · exact P.elim)
theorem srv_max {Γ : Gm} : SrvL Γ (f2 maxD) (fun xs H Q => ∃ i j, xs = [.int i, .int j] ∧ Q (.int (if j > i then j else i)) H) := srvL2 (by
  intro mp H st d e x y Q W R h1 h2 P
  unfold maxD at P
  split at P
  · simp only [Rv] at h1 h2; subst h1 h2
    exact ⟨_, _, rfl, post_here P R (by simp [Rv])⟩
  · exact P.elim)
/-! list(..), tuple(..) -/
def listD (mk : List D → Mem → Res D) : F1 := fun d st => match seqD d st with
  | some xs => mk xs st
  | none => .bad
def tupleD : F1 := fun d st => match d with
  | .tup xs => .ok (.tup xs) st
  | .kt xs => .ok (.kt xs) st
  | d => match lstD d st with
    | some xs => .ok (.tup xs) st
    | none => .bad
theorem srv_list {Γ : Gm} {mk : List D → Mem → Res D} (hk : MkOk mk) : SrvL Γ (f1 (listD mk)) (fun xs H Q => ∃ p ys, xs = [.ref p] ∧ (SqL Γ.K H p ys ∨ SqT Γ.K H p ys) ∧ ∀ l, H l = none → Q (.ref l) (upd H l (.lst ys))) := srvL1 (by
  intro mp H st d x Q W R h P
  unfold listD at P
  split at P
  · rename_i xs hs
    obtain ⟨a, vs, rfl, ha, ra⟩ := seqD_of R h hs
    exact ⟨a, vs, rfl, ha, hk Γ mp H st Q W _ _ R ra P⟩
  · exact P.elim)
theorem srv_tuple {Γ : Gm} : SrvL Γ (f1 tupleD) (fun xs H Q => ∃ p ys, xs = [.ref p] ∧ ((SqL Γ.K H p ys ∧ ∀ l, H l = none → Q (.ref l) (upd H l (.tup ys))) ∨ (SqT Γ.K H p ys ∧ Q (.ref p) H))) := srvL1 (by
  intro mp H st d x Q W R h P
  unfold tupleD at P
  split at P
  · have h' := h
    simp only [Rv] at h
    obtain ⟨a, vs, rfl, ha, ra⟩ := h
    exact ⟨a, vs, rfl, .inr ⟨ha.sq, post_here P R h'⟩⟩
  · have h' := h
    simp only [Rv] at h
    obtain ⟨a, vs, rfl, ha, ra⟩ := h
    exact ⟨a, vs, rfl, .inr ⟨ha.sq, post_here P R h'⟩⟩
  · split at P
    · rename_i xs hs
      obtain ⟨a, vs, rfl, ha, ra⟩ := lstD_of R h hs
      exact ⟨a, vs, rfl, .inl ⟨ha, post_tup P R ra⟩⟩
    · exact P.elim)
/-! int(..), str(..) -/
def intD : F1 := fun d st => match d with
  | .int i => .ok (.int i) st
  | .bl k => .ok (.int (if k then 1 else 0)) st
  | .str x => match PySem.intText? x with
    | some n => if x.length ≤ 640 then .ok (.int n) st else .bad
    | none => .bad
  | _ => .bad
def rInt' : List V → Hp → VK → Prop := fun xs H Q => ((∃ i, xs = [.int i] ∧ Q (.int i) H) ∨ ∃ k, xs = [.bl k] ∧ Q (.int (if k then 1 else 0)) H) ∨ (∃ a n, xs = [.str a] ∧ PySem.intText? a = some n ∧ a.length ≤ 640 ∧ Q (.int n) H)
theorem call_int' {X : Cx} : CallR X (.type "int") rInt' := CallR.or call_int1 call_int_str
theorem srv_int {Γ : Gm} : SrvL Γ (f1 intD) rInt' := srvL1 (by
  intro mp H st d x Q W R h P
  unfold intD at P
  split at P
  · simp only [Rv] at h; subst h
    exact .inl (.inl ⟨_, rfl, post_here P R (by simp [Rv])⟩)
  · simp only [Rv] at h; subst h
    exact .inl (.inr ⟨_, rfl, post_here P R (by simp [Rv])⟩)
  · simp only [Rv] at h; subst h
    split at P
    · rename_i n hn
      split at P
      · rename_i hl
        exact .inr ⟨_, n, rfl, hn, hl, post_here P R (by simp [Rv])⟩
      · exact P.elim
    · exact P.elim
  · exact P.elim)
def strD : F1 := fun d st => match d with
  | .int i => if i.natAbs < 1000000000000000000000 then .ok (.str (toString i)) st else .bad
  | _ => .bad
theorem log2_small {n b : Nat} (h : n < 2 ^ b) (h0 : 0 < b) : n.log2 < b := PySem.Flt.log2_lt_of h0 h
theorem srv_str {Γ : Gm} : SrvL Γ (f1 strD) (fun xs H Q => ∃ i, xs = [.int i] ∧ i.natAbs.log2 < 1920 ∧ Q (.str (toString i)) H) := srvL1 (by
  intro mp H st d x Q W R h P
  unfold strD at P
  split at P
  · simp only [Rv] at h; subst h
    split at P
    · rename_i hl
      exact ⟨_, rfl, Nat.lt_of_lt_of_le (log2_small (b := 70) (by omega) (by decide)) (by decide), post_here P R (by simp [Rv])⟩
    · exact P.elim
  · exact P.elim)

/-! ### isinstance -/
/-- the type's name -/
def typeD (d : D) (st : Mem) : Option String := match d with
  | .non => some "NoneType"
  | .bl _ => some "bool"
  | .int _ => some "int"
  | .str _ => some "str"
  | .tup _ => some "tuple"
  | .kt _ => some "tuple"
  | .lst _ => some "list"
  | .fz _ => some "list"
  | .dct _ _ => some "dict"
  | .loc n => match st[n]? with
    | some (.lst _) => some "list"
    | some (.dK _) => some "dict"
    | some (.dT _) => some "dict"
    | _ => none
  | .gl _ => none
theorem type_of {Γ : Gm} {mp : List Addr} {H : Hp} {st : Mem} {d : D} {x : V} {t : String} (R : RelM Γ mp H st) (h : Rv Γ mp H d x) (e : typeD d st = some t) : TyX Γ.K H x (.type t) := by
  cases d with
  | non => simp only [Rv, typeD, Option.some.injEq] at h e; subst h e; exact .base .non
  | bl b => simp only [Rv, typeD, Option.some.injEq] at h e; subst h e; exact .base (.bl b)
  | int b => simp only [Rv, typeD, Option.some.injEq] at h e; subst h e; exact .base (.int b)
  | str b => simp only [Rv, typeD, Option.some.injEq] at h e; subst h e; exact .base (.str b)
  | tup xs =>
    simp only [Rv, typeD, Option.some.injEq] at h e; subst e
    obtain ⟨a, vs, rfl, q, r⟩ := h
    exact .base (.tup q.1)
  | kt xs =>
    simp only [Rv, typeD, Option.some.injEq] at h e; subst e
    obtain ⟨a, vs, rfl, q, r⟩ := h
    rcases q with ⟨q | ⟨o, q⟩, _⟩ | ⟨o, its, n, q, c, _⟩
    · exact .base (.tup q)
    · exact .fTuple q
    · exact .kTuple q c
  | lst xs =>
    simp only [Rv, typeD, Option.some.injEq] at h e; subst e
    obtain ⟨a, vs, rfl, q, r⟩ := h
    exact .base (.lst q.1)
  | fz xs =>
    simp only [Rv, typeD, Option.some.injEq] at h e; subst e
    obtain ⟨a, vs, rfl, q, r⟩ := h
    rcases q with ⟨q | ⟨o, q⟩, _⟩ | ⟨o, its, n, q, c, _⟩
    · exact .base (.lst q)
    · exact .base (.frz q)
    · exact .kList q c
  | dct ks xs =>
    simp only [Rv, typeD, Option.some.injEq] at h e; subst e
    obtain ⟨a, vs, rfl, q, _⟩ := h
    exact .base (.dK q)
  | loc n =>
    simp only [Rv, typeD] at h e
    obtain ⟨a, rfl, hm⟩ := h
    split at e
    · rename_i xs hs
      obtain ⟨vs, q, r⟩ := R.cell n _ a hs hm
      cases e
      exact .base (.lst q)
    · rename_i xs hs
      obtain ⟨vs, q, r⟩ := R.cell n _ a hs hm
      cases e
      exact .base (.dK q)
    · rename_i xs hs
      obtain ⟨vs, q, r⟩ := R.cell n _ a hs hm
      cases e
      exact .base (.dT q)
    · cases e
  | gl y => simp [typeD] at e
/-- whether a built-in type is a built-in class -/
def isiB (t c : String) : Bool := t == c || (t == "bool" && c == "int")
def dataTypes : List String := ["NoneType", "bool", "int", "str", "tuple", "list", "dict"]
theorem isiB_ok : ∀ t ∈ dataTypes, ∀ c ∈ ["int", "bool", "str", "tuple", "list", "dict"], kitB t c = some (isiB t c) := by decide +kernel
theorem typeD_in {d : D} {st : Mem} {t : String} (e : typeD d st = some t) : t ∈ dataTypes := by
  unfold typeD at e
  split at e <;> first | (cases e; decide) | (cases e; done) | (split at e <;> first | (cases e; decide) | cases e)
def isiD (cs : List String) : F1 := fun d st => match typeD d st with
  | some t => .ok (.bl (cs.any fun c => isiB t c)) st
  | none => .bad
section
variable {X : Cx} {e : Expr} {m : ME} {pos p q : Pos} {c c2 : Str} {C C2 : String}
theorem se_isi (he : SE X e m) (hc : C ∈ ["int", "bool", "str", "tuple", "list", "dict"]) (hv : bootBuiltins c = some (.type C)) (hg : Gl X "isinstance") (hm : X.mg "isinstance" = none) (hgc : Gl X c) (hmc : X.mg c = none) (hn : c ≠ "__name__" := by decide)
    (hdb : (c == ("__debug__" : Str)) = false := by decide) (hs : starEach [e, .Name c q] X.env = (false, eval e X.env) :: starEach [.Name c q] X.env := by rfl) (hs2 : starEach [.Name c q] X.env = (false, eval (.Name c q) X.env) :: starEach [] X.env := by rfl)
    (hpl : (backTo pos (starEach [.Name c q] X.env)).any (·.1) = false := by rfl) : SE X (.Call (.Name "isinstance" p) [e, .Name c q] [] pos) (m1 (isiD [C]) m) :=
  ⟨fun W tk => PE.imp (pe_callB call_isi hg hm boot_isinstance (pa_cons (he.run W tk) (pa_cons (pe_bltn (v := .ty C) hgc hmc hv rfl hn hdb) pa_nil hs2) hs) (by decide) (by decide) hs hpl) fun σ H Q h => by
    obtain ⟨mp, st, ρ, R, E, P⟩ := tG_bind (Rel := Rv (gm X)) (m := m) (k := fun _ d st1 => isiD [C] d st1) h
    refine ⟨mp, st, ρ, R, E, P.mono fun x H1 ⟨mp1, st1, ρ1, d, R1, E1, r1, P1⟩ => ?_⟩
    unfold isiD at P1
    split at P1
    · rename_i t ht
      refine ⟨x, .ty C, .type t, .type C, isiB t C, rfl, .ty C, type_of R1 r1 ht, kit_ty (isiB_ok t (typeD_in ht) C hc), ?_⟩
      have := post_here P1 R1 (v := .bl (isiB t C)) (by simp [Rv])
      exact this
    · exact P1.elim⟩
theorem se_isi2 {k2 : Nat} {tp : Pos} {q2 : Pos} (he : SE X e m) (hc : C ∈ ["int", "bool", "str", "tuple", "list", "dict"]) (hc2 : C2 ∈ ["int", "bool", "str", "tuple", "list", "dict"]) (hv : bootBuiltins c = some (.type C)) (hv2 : bootBuiltins c2 = some (.type C2))
    (hg : Gl X "isinstance") (hm : X.mg "isinstance" = none) (hgc : Gl X c) (hmc : X.mg c = none) (hgc2 : Gl X c2) (hmc2 : X.mg c2 = none) (hn : c ≠ "__name__" := by decide) (hn2 : c2 ≠ "__name__" := by decide)
    (hdb : (c == ("__debug__" : Str)) = false := by decide) (hdb2 : (c2 == ("__debug__" : Str)) = false := by decide)
    (hs : starEach [e, .Tuple [.Name c q, .Name c2 q2] k2 tp] X.env = (false, eval e X.env) :: starEach [.Tuple [.Name c q, .Name c2 q2] k2 tp] X.env := by rfl) : SE X (.Call (.Name "isinstance" p) [e, .Tuple [.Name c q, .Name c2 q2] k2 tp] [] pos) (m1 (isiD [C, C2]) m) :=
  ⟨fun W tk => PE.imp (pe_callB call_isiT hg hm boot_isinstance (pa_cons (he.run W tk) (pa_cons (pe_tup (pa_cons (pe_bltn (v := .ty C) hgc hmc hv rfl hn hdb) (pa_cons (pe_bltn (v := .ty C2) hgc2 hmc2 hv2 rfl hn2 hdb2) pa_nil))) pa_nil) hs) (by decide) (by decide) hs) fun σ H Q h => by
    obtain ⟨mp, st, ρ, R, E, P⟩ := tG_bind (Rel := Rv (gm X)) (m := m) (k := fun _ d st1 => isiD [C, C2] d st1) h
    refine ⟨mp, st, ρ, R, E, P.mono fun x H1 ⟨mp1, st1, ρ1, d, R1, E1, r1, P1⟩ => ⟨line_le (show 2 ≤ LINE by decide), fun tq ht => ?_⟩⟩
    unfold isiD at P1
    split at P1
    · rename_i t hty
      have a1 := isiB_ok t (typeD_in hty) C hc
      have a2 := isiB_ok t (typeD_in hty) C2 hc2
      have x1 : Ext mp1 H1 mp1 (upd H1 tq (.tup [.ty C, .ty C2])) := ext_laid ht
      refine ⟨x, tq, [.ty C, .ty C2], .type t, [.type C, .type C2], isiB t C || isiB t C2, rfl, upd_same, .cons (.ty C) (.cons (.ty C2) .nil), type_of (R1.laid ht) (Rv.ext x1 _ _ r1) hty, ?_, ?_⟩
      · refine kitAny_cons (kit_ty a1) (fun hb => ?_) (fun hb => by rw [hb]; rfl)
        rw [hb]
        refine kitAny_cons (kit_ty a2) (fun hb2 => ?_) (fun hb2 => by rw [hb2]; rfl)
        rw [hb2]; rfl
      · exact P1 mp1 _ _ x1 (R1.laid ht) (by simp [Rv])
    · exact P1.elim⟩
end
end VI
set_option maxHeartbeats 4000000
namespace VI
open PySem PySem.Spec PyProof.Rows L2

/-- what a rule wants of its context: room for k calls, no guard, not in an except suite, no name twice, exceptions pass the loops -/
structure XC (k : Nat) (X : Cx) : Prop where
  xr : XR k X
  calm : X.calm = true
  nd : X.N.Nodup
  po : PassesOwn (model X.prog X.w) X.A X.env X.xe
theorem XC.mono {j k : Nat} {X : Cx} (r : XC k X) (h : j ≤ k := by decide) : XC j X := ⟨r.xr.mono h, r.calm, r.nd, r.po⟩
theorem XC.blk {k : Nat} {X : Cx} (r : XC k X) (s : Shared) (H : Hp) (scope : Scope) (cenv : PySem.Env) (fp : List Addr) : XC k (X.blk s H scope cenv fp) :=
  ⟨⟨r.xr.room, r.xr.gd⟩, r.calm, r.nd, PassesOwn.never⟩

inductive RS where
  | nx (ρ : Env) (st : Mem) | rt (d : D) (st : Mem) | bk (ρ : Env) (st : Mem) | ct (ρ : Env) (st : Mem) | exc (e : Ex) (ρ : Env) (st : Mem) | bad
abbrev MS := Env → Mem → RS
def RS.seq (r : RS) (k : MS) : RS := match r with
  | .nx ρ st => k ρ st
  | r => r
def Res.toS {α : Type} (r : Res α) (ρ : Env) (k : α → Mem → RS) : RS := match r with
  | .ok a st => k a st
  | .exc e st => .exc e ρ st
  | .bad => .bad
@[simp] theorem Res.ok_toS {α : Type} (a : α) (st : Mem) (ρ : Env) (k : α → Mem → RS) : (Res.ok a st).toS ρ k = k a st := rfl
@[simp] theorem Res.exc_toS {α : Type} (e : Ex) (st : Mem) (ρ : Env) (k : α → Mem → RS) : (Res.exc e st : Res α).toS ρ k = .exc e ρ st := rfl
@[simp] theorem Res.bad_toS {α : Type} (ρ : Env) (k : α → Mem → RS) : (Res.bad : Res α).toS ρ k = .bad := rfl
@[simp] theorem RS.nx_seq (ρ : Env) (st : Mem) (k : MS) : (RS.nx ρ st).seq k = k ρ st := rfl
@[simp] theorem RS.rt_seq (d : D) (st : Mem) (k : MS) : (RS.rt d st).seq k = .rt d st := rfl
@[simp] theorem RS.bk_seq (ρ : Env) (st : Mem) (k : MS) : (RS.bk ρ st).seq k = .bk ρ st := rfl
@[simp] theorem RS.ct_seq (ρ : Env) (st : Mem) (k : MS) : (RS.ct ρ st).seq k = .ct ρ st := rfl
@[simp] theorem RS.exc_seq (e : Ex) (ρ : Env) (st : Mem) (k : MS) : (RS.exc e ρ st).seq k = .exc e ρ st := rfl
@[simp] theorem RS.bad_seq (k : MS) : RS.bad.seq k = .bad := rfl

def PostS (Γ : Gm) (mp : List Addr) (H : Hp) (r : RS) (E : Ends) (W : WX) : Prop :=
  match r with
  | .nx ρ' st' => ∀ mp' H' σ', Ext mp H mp' H' → RelM Γ mp' H' st' → RelE Γ mp' H' ρ' σ' → E.nx σ' H'
  | .bk ρ' st' => ∀ mp' H' σ', Ext mp H mp' H' → RelM Γ mp' H' st' → RelE Γ mp' H' ρ' σ' → E.bk σ' H'
  | .ct ρ' st' => ∀ mp' H' σ', Ext mp H mp' H' → RelM Γ mp' H' st' → RelE Γ mp' H' ρ' σ' → E.ct σ' H'
  | .rt d st' => ∀ mp' H' v, Ext mp H mp' H' → RelM Γ mp' H' st' → Rv Γ mp' H' d v → E.rt v H'
  | .exc e ρ' st' => ∀ mp' H' cls dd σ', Ext mp H mp' H' → RelM Γ mp' H' st' → RelX Γ mp' H' e cls dd → RelE Γ mp' H' ρ' σ' → W cls dd σ' H'
  | .bad => False
section
variable {Γ : Gm} {mp mp' : List Addr} {H H' : Hp} {r : RS} {E E' : Ends} {W : WX}
theorem PostS.ext (h : PostS Γ mp H r E W) (e : Ext mp H mp' H') : PostS Γ mp' H' r E W := by
  cases r with
  | nx => exact fun m2 H2 v e2 => h m2 H2 v (e.trans e2)
  | bk => exact fun m2 H2 v e2 => h m2 H2 v (e.trans e2)
  | ct => exact fun m2 H2 v e2 => h m2 H2 v (e.trans e2)
  | rt => exact fun m2 H2 v e2 => h m2 H2 v (e.trans e2)
  | exc => exact fun m2 H2 c dd v e2 => h m2 H2 c dd v (e.trans e2)
  | bad => exact h
/-- an expression first -/
theorem PostS.toS {α β : Type} {Rel : List Addr → Hp → α → β → Prop} {x : Res α} {k : α → Mem → RS} {ρ : Env} {σ : L2.St} (h : PostS Γ mp H (x.toS ρ k) E W) (re : RelE Γ mp H ρ σ) :
    PostG Γ Rel mp H x (fun v H1 => ∃ mp1 st1 a, x = .ok a st1 ∧ Ext mp H mp1 H1 ∧ RelM Γ mp1 H1 st1 ∧ Rel mp1 H1 a v ∧ RelE Γ mp1 H1 ρ σ ∧ PostS Γ mp1 H1 (k a st1) E W) (fun c d H' => W c d σ H') := by
  cases x with
  | ok d st => exact fun m2 H2 v e2 R r => ⟨m2, st, d, rfl, e2, R, r, re.ext e2, PostS.ext (r := k d st) h e2⟩
  | exc x st => exact fun m2 H2 c dd e2 R rx => h m2 H2 c dd σ e2 R rx (re.ext e2)
  | bad => exact h
end
/-- a statement's reading -/
def tS (Γ : Gm) (W : WX) (m : MS) : TS := fun E σ H => ∃ mp st ρ, RelM Γ mp H st ∧ RelE Γ mp H ρ σ ∧ PostS Γ mp H (m ρ st) E W
structure SS (X : Cx) (s : Stmt) (m : MS) : Prop where
  run : ∀ W, Takes X W → PS X s (tS (gm X) W m)
structure SSs (X : Cx) (s : List Stmt) (m : MS) : Prop where
  run : ∀ W, Takes X W → PSs X s (tS (gm X) W m)
theorem PS.imp {X : Cx} {s : Stmt} {t t' : TS} (h : PS X s t) (i : ∀ E σ H, t' E σ H → t E σ H) : PS X s t' := ⟨fun pins s σ H E I q => h.run pins s σ H E I (i E σ H q)⟩
theorem PSs.imp {X : Cx} {s : List Stmt} {t t' : TS} (h : PSs X s t) (i : ∀ E σ H, t' E σ H → t E σ H) : PSs X s t' := ⟨fun pins s σ H E I q => h.run pins s σ H E I (i E σ H q)⟩
theorem tS_toS {α β : Type} {Γ : Gm} {Rel : List Addr → Hp → α → β → Prop} {W : WX} {x : Env → Mem → Res α} {k : Env → α → Mem → RS} {E : Ends} {σ : L2.St} {H : Hp}
    (h : tS Γ W (fun ρ st => (x ρ st).toS ρ (k ρ)) E σ H) : tG Γ Rel W x σ H (fun v H1 => ∃ mp1 st1 ρ a, RelM Γ mp1 H1 st1 ∧ RelE Γ mp1 H1 ρ σ ∧ Rel mp1 H1 a v ∧ PostS Γ mp1 H1 (k ρ a st1) E W) := by
  obtain ⟨mp, st, ρ, R, re, P⟩ := h
  exact ⟨mp, st, ρ, R, re, (P.toS re).mono fun v H1 ⟨mp1, st1, a, _, e, R1, r, re1, P1⟩ => ⟨mp1, st1, ρ, a, R1, re1, r, P1⟩⟩
/-- .. from a known state -/
theorem tG_toS {α β : Type} {Γ : Gm} {Rel : List Addr → Hp → α → β → Prop} {W : WX} {x : Env → Mem → Res α} {k : α → Mem → RS} {E : Ends} {σ : L2.St} {H : Hp} {ρ : Env} {st : Mem} {mp : List Addr}
    (R : RelM Γ mp H st) (re : RelE Γ mp H ρ σ) (P : PostS Γ mp H ((x ρ st).toS ρ k) E W) :
    tG Γ Rel W x σ H (fun v H1 => ∃ mp1 st1 a, x ρ st = .ok a st1 ∧ Ext mp H mp1 H1 ∧ RelM Γ mp1 H1 st1 ∧ RelE Γ mp1 H1 ρ σ ∧ Rel mp1 H1 a v ∧ PostS Γ mp1 H1 (k a st1) E W) :=
  ⟨mp, st, ρ, R, re, (P.toS re).mono fun v H1 ⟨mp1, st1, a, q, e, R1, r, re1, P1⟩ => ⟨mp1, st1, a, q, e, R1, re1, r, P1⟩⟩

section
variable {X : Cx} {s : Stmt} {ss : List Stmt} {m n : MS} {e : Expr} {me : ME} {pos : Pos} {mb : MB}
def sNil : MS := fun ρ st => .nx ρ st
def sSeq (m n : MS) : MS := fun ρ st => (m ρ st).seq n
theorem post_nx {Γ : Gm} {mp : List Addr} {H : Hp} {ρ : Env} {st : Mem} {σ : L2.St} {E : Ends} {W : WX} (P : PostS Γ mp H (.nx ρ st) E W) (R : RelM Γ mp H st) (re : RelE Γ mp H ρ σ) : E.nx σ H := P mp H σ (Ext.refl _ _) R re
theorem ss_nil : SSs X [] sNil := ⟨fun W tk => PSs.imp pss_nil fun E σ H ⟨mp, st, ρ, R, re, P⟩ => post_nx P R re⟩
/-- the first one's ends, with the rest behind -/
theorem PostS.seq {Γ : Gm} {mp : List Addr} {H : Hp} {r : RS} {E : Ends} {W : WX} {k : MS} (P : PostS Γ mp H (r.seq k) E W) : PostS Γ mp H r { E with nx := tS Γ W k E } W := by
  cases r with
  | nx ρ st => exact fun m2 H2 σ2 e2 R re => ⟨m2, st, ρ, R, re, PostS.ext (r := k ρ st) P e2⟩
  | bk => exact P
  | ct => exact P
  | rt => exact P
  | exc => exact P
  | bad => exact P
theorem ss_cons (h1 : SS X s m) (h2 : SSs X ss n) : SSs X (s :: ss) (sSeq m n) := ⟨fun W tk => PSs.imp (pss_cons (h1.run W tk) (h2.run W tk)) fun E σ H ⟨mp, st, ρ, R, re, P⟩ => ⟨mp, st, ρ, R, re, P.seq⟩⟩
theorem ss_one (h1 : SS X s m) : SSs X [s] m := ⟨fun W tk => pss_one (h1.run W tk)⟩
theorem s_pass : SS X (.Pass pos) sNil := ⟨fun W tk => PS.imp ps_pass fun E σ H ⟨mp, st, ρ, R, re, P⟩ => post_nx P R re⟩
def sBreak : MS := fun ρ st => .bk ρ st
def sCont : MS := fun ρ st => .ct ρ st
theorem s_break : SS X (.Break pos) sBreak := ⟨fun W tk => PS.imp ps_break fun E σ H ⟨mp, st, ρ, R, re, P⟩ => P mp H σ (Ext.refl _ _) R re⟩
theorem s_cont : SS X (.Continue pos) sCont := ⟨fun W tk => PS.imp ps_continue fun E σ H ⟨mp, st, ρ, R, re, P⟩ => P mp H σ (Ext.refl _ _) R re⟩
def sDrop (m : ME) : MS := fun ρ st => (m ρ st).toS ρ fun _ st1 => .nx ρ st1
theorem s_expr (he : SE X e me) (hs : swapsWith e none pos.line X.env = pure false := by rfl) : SS X (.Expr e pos) (sDrop me) := ⟨fun W tk => PS.imp (ps_expr (he.run W tk) hs) fun E σ H q => by
  obtain ⟨mp, st, ρ, R, re, P⟩ := tS_toS (Rel := Rv (gm X)) (x := me) (k := fun ρ _ st1 => .nx ρ st1) q
  exact ⟨mp, st, ρ, R, re, P.mono fun x H1 ⟨mp1, st1, ρ1, d, R1, re1, r1, P1⟩ => post_nx P1 R1 re1⟩⟩
def sRet (m : ME) : MS := fun ρ st => (m ρ st).toS ρ fun d st1 => .rt d st1
theorem s_ret (he : SE X e me) : SS X (.Return (some e) pos) (sRet me) := ⟨fun W tk => PS.imp (ps_ret (he.run W tk)) fun E σ H q => by
  obtain ⟨mp, st, ρ, R, re, P⟩ := tS_toS (Rel := Rv (gm X)) (x := me) (k := fun ρ d st1 => .rt d st1) q
  exact ⟨mp, st, ρ, R, re, P.mono fun x H1 ⟨mp1, st1, ρ1, d, R1, re1, r1, P1⟩ => P1 mp1 H1 x (Ext.refl _ _) R1 r1⟩⟩
def sRetN : MS := fun _ st => .rt .non st
theorem s_retN : SS X (.Return none pos) sRetN := ⟨fun W tk => PS.imp ps_retN fun E σ H ⟨mp, st, ρ, R, re, P⟩ => P mp H .non (Ext.refl _ _) R (by simp [Rv])⟩
def sIf (c : MB) (m n : MS) : MS := fun ρ st => (c ρ st).toS ρ fun b st1 => if b = true then m ρ st1 else n ρ st1
theorem s_if {c : Expr} {a b : List Stmt} (hc : ST X c mb) (ha : SSs X a m) (hb : SSs X b n) : SS X (.If c a b pos) (sIf mb m n) := ⟨fun W tk => PS.imp (ps_if (hc.run W tk) (ha.run W tk) (hb.run W tk)) fun E σ H q => by
  obtain ⟨mp, st, ρ, R, re, P⟩ := tS_toS (Rel := RB) (x := mb) (k := fun ρ b st1 => if b = true then m ρ st1 else n ρ st1) q
  refine ⟨mp, st, ρ, R, re, P.mono fun x H1 ⟨mp1, st1, ρ1, d, R1, re1, r1, P1⟩ => ?_⟩
  cases r1
  cases x with
  | true => exact ⟨mp1, st1, ρ1, R1, re1, P1⟩
  | false => exact ⟨mp1, st1, ρ1, R1, re1, P1⟩⟩
end

/-! ### targets -/
abbrev MG := D → Env → Mem → RS
def PostN (Γ : Gm) (mp : List Addr) (H : Hp) (vs : List Nat) (σ : L2.St) (r : RS) (Q : L2.St → Hp → Prop) : Prop :=
  match r with
  | .nx ρ' st' => ∀ mp' H' σ', Ext mp H mp' H' → RelM Γ mp' H' st' → RelE Γ mp' H' ρ' σ' → σ'.length = σ.length → (∀ j : Nat, j ∉ vs → σ'[j]? = σ[j]?) → Q σ' H'
  | _ => False
theorem PostN.ext {Γ : Gm} {mp mp' : List Addr} {H H' : Hp} {vs : List Nat} {σ : L2.St} {r : RS} {Q : L2.St → Hp → Prop} (h : PostN Γ mp H vs σ r Q) (e : Ext mp H mp' H') : PostN Γ mp' H' vs σ r Q := by
  cases r with
  | nx => exact fun m2 H2 v e2 => h m2 H2 v (e.trans e2)
  | _ => exact h
def tN (Γ : Gm) (vs : List Nat) (g : MG) : TG := fun x σ H Q => ∃ mp st ρ d, RelM Γ mp H st ∧ RelE Γ mp H ρ σ ∧ Rv Γ mp H d x ∧ PostN Γ mp H vs σ (g d ρ st) Q
/-- a target, that stores at the slots vs at most -/
structure SG (X : Cx) (tg : Expr) (vs : List Nat) (g : MG) : Prop where
  run : PG X tg (tN (gm X) vs g)
structure SGs (X : Cx) (ts : List Expr) (vs : List Nat) (g : List D → Env → Mem → RS) : Prop where
  run : PGs X ts (fun xs σ H Q => ∃ mp st ρ ds, RelM (gm X) mp H st ∧ RelE (gm X) mp H ρ σ ∧ RvL (gm X) mp H ds xs ∧ PostN (gm X) mp H vs σ (g ds ρ st) Q)
theorem PG.imp {X : Cx} {e : Expr} {t t' : TG} (h : PG X e t) (i : ∀ x σ H Q, t' x σ H Q → t x σ H Q) : PG X e t' := ⟨fun pins s σ H v u Q I r q => h.run pins s σ H v u Q I r (i v σ H Q q)⟩
theorem PGs.imp {X : Cx} {e : List Expr} {t t' : TGs} (h : PGs X e t) (i : ∀ x σ H Q, t' x σ H Q → t x σ H Q) : PGs X e t' := ⟨fun pins s σ H v u Q I r q => h.run pins s σ H v u Q I r (i v σ H Q q)⟩
theorem PG.or {X : Cx} {e : Expr} {t t' : TG} (h : PG X e t) (h' : PG X e t') : PG X e (fun x σ H Q => t x σ H Q ∨ t' x σ H Q) := ⟨fun pins s σ H v u Q I r q => q.elim (h.run pins s σ H v u Q I r) (h'.run pins s σ H v u Q I r)⟩
section
variable {X : Cx} {pos : Pos}
def gNm (i : Nat) : MG := fun d ρ st => .nx (ρ.set i (some d)) st
theorem sg_name {i : Nat} {x : Str} (hN : X.N.Nodup) (hi : X.N[i]? = some x) (hx : Loc X.env.scope x) (hf : X.fn x = true ∨ X.env.scope.names.lookup x = some .local := by first | exact .inl rfl | exact .inr rfl | assumption) : SG X (.Name x pos) [i] (gNm i) :=
  ⟨PG.imp (pg_name hN hi hx hf) fun x σ H Q ⟨mp, st, ρ, d, R, re, r, P⟩ => P mp H _ (Ext.refl _ _) R (re.set i r) (by simp) fun j hj => List.getElem?_set_ne (fun z => hj (by simp [z]))⟩
def gsNil : List D → Env → Mem → RS := fun ds ρ st => match ds with
  | [] => .nx ρ st
  | _ => .bad
def gsCons (g : MG) (h : List D → Env → Mem → RS) : List D → Env → Mem → RS := fun ds ρ st => match ds with
  | d :: ds => match g d ρ st with
    | .nx ρ1 st1 => h ds ρ1 st1
    | _ => .bad
  | [] => .bad
theorem sgs_nil : SGs X [] [] gsNil := ⟨PGs.imp pgs_nil fun xs σ H Q ⟨mp, st, ρ, ds, R, re, r, P⟩ => by
  cases ds with
  | nil => simp only [RvL] at r; exact ⟨r, P mp H σ (Ext.refl _ _) R re rfl fun _ _ => rfl⟩
  | cons d ds => exact P.elim⟩
theorem sgs_cons {e : Expr} {es : List Expr} {vs us : List Nat} {g : MG} {h : List D → Env → Mem → RS} (h1 : SG X e vs g) (h2 : SGs X es us h)
    (hs : (assignEach (e :: es) X.env).map (·.2) = assign e X.env :: (assignEach es X.env).map (·.2) := by rfl) : SGs X (e :: es) (vs ++ us) (gsCons g h) := ⟨PGs.imp (pgs_cons h1.run h2.run hs) fun xs σ H Q ⟨mp, st, ρ, ds, R, re, r, P⟩ => by
  cases ds with
  | nil => exact P.elim
  | cons d ds =>
    simp only [RvL] at r
    obtain ⟨v, xr, rfl, r1, r2⟩ := r
    refine ⟨v, xr, rfl, mp, st, ρ, d, R, re, r1, ?_⟩
    unfold gsCons at P
    cases e1 : g d ρ st with
    | nx ρ1 st1 =>
      simp only [e1] at P
      intro mp' H' σ' x1 R1 re1 l1 k1
      refine ⟨mp', st1, ρ1, ds, R1, re1, RvL.ext x1 _ _ r2, ?_⟩
      have P1 := PostN.ext (r := h ds ρ1 st1) P x1
      cases e2 : h ds ρ1 st1 with
      | nx ρ2 st2 =>
        rw [e2] at P1
        intro mp2 H2 σ2 x2 R2 re2 l2 k2
        exact P1 mp2 H2 σ2 x2 R2 re2 (l2.trans l1) fun j hj => by
          simp only [List.mem_append, not_or] at hj
          exact (k2 j hj.2).trans (k1 j hj.1)
      | _ => rw [e2] at P1; exact P1.elim
    | _ => simp only [e1] at P; exact P.elim⟩
def gTp (n : Nat) (h : List D → Env → Mem → RS) : MG := fun d ρ st => match seqD d st with
  | some ds => if ds.length = n then h ds ρ st else .bad
  | none => .bad
theorem sg_tup {es : List Expr} {k : Nat} {vs : List Nat} {h : List D → Env → Mem → RS} {n : Nat} (hc : X.calm = true) (hh : SGs X es vs h)
    (hn : (assignEach es X.env).length = n := by rfl) (hst : (assignEach es X.env).findIdx? (·.1) = none := by rfl) : SG X (.Tuple es k pos) vs (gTp n h) :=
  ⟨PG.imp (PG.or (pg_tup hc hh.run hn hst) (pg_lst hc hh.run hn hst)) fun x σ H Q ⟨mp, st, ρ, d, R, re, r, P⟩ => by
    unfold gTp at P
    split at P
    · rename_i ds hs
      obtain ⟨a, us, rfl, ha, ra⟩ := seqD_of R r hs
      split at P
      · rename_i hl
        rcases ha with ha | ha
        · exact .inr ⟨a, us, rfl, ha, by rw [← ra.length]; exact hl, mp, st, ρ, ds, R, re, ra, P⟩
        · exact .inl ⟨a, us, rfl, ha, by rw [← ra.length]; exact hl, mp, st, ρ, ds, R, re, ra, P⟩
      · exact P.elim
    · exact P.elim⟩
end

/-! ### assignments -/
section
variable {X : Cx} {e tg : Expr} {me : ME} {g : MG} {vs : List Nat} {pos : Pos}
def sAsg (m : ME) (g : MG) : MS := fun ρ st => (m ρ st).toS ρ fun d st1 => match g d ρ st1 with
  | .nx ρ1 st2 => .nx ρ1 st2
  | _ => .bad
theorem postN_of {Γ : Gm} {mp : List Addr} {H : Hp} {σ : L2.St} {r : RS} {E : Ends} {W : WX} (P : PostS Γ mp H (match r with | .nx ρ1 st2 => .nx ρ1 st2 | _ => .bad) E W) : PostN Γ mp H vs σ r E.nx := by
  cases r with
  | nx ρ st => exact fun m2 H2 σ2 x R re _ _ => P m2 H2 σ2 x R re
  | _ => exact P.elim
theorem tAsg_of {Γ : Gm} {W : WX} {E : Ends} {σ : L2.St} {H : Hp} (q : tS Γ W (sAsg me g) E σ H) : tAsg (tE Γ W me) (tN Γ vs g) E σ H := by
  obtain ⟨mp, st, ρ, R, re, P⟩ := tS_toS (Rel := Rv Γ) (x := me) (k := fun ρ d st1 => match g d ρ st1 with | .nx ρ1 st2 => .nx ρ1 st2 | _ => .bad) q
  exact ⟨mp, st, ρ, R, re, P.mono fun x H1 ⟨mp1, st1, ρ1, d, R1, re1, r1, P1⟩ => ⟨mp1, st1, ρ1, d, R1, re1, r1, postN_of P1⟩⟩
theorem s_asg (he : SE X e me) (hg : SG X tg vs g) (hs : swapsWithSole [tg] e pos.line X.env = pure false := by rfl) (hw : swappedStores [tg] e X.env = pure none := by rfl)
    (h1 : (assignEach [tg] X.env).map (·.2) = [assign tg X.env] := by rfl) : SS X (.Assign [tg] e pos) (sAsg me g) := ⟨fun W tk => PS.imp (ps_asg (he.run W tk) hg.run hs hw h1) fun E σ H q => tAsg_of q⟩
def sSet (i : Nat) (m : ME) : MS := fun ρ st => (m ρ st).toS ρ fun d st1 => .nx (ρ.set i (some d)) st1
theorem s_set {i : Nat} {x : Str} {pos' : Pos} (hN : X.N.Nodup) (hi : X.N[i]? = some x) (hx : Loc X.env.scope x) (he : SE X e me) (hs : swapsWith e (some (.Name x pos')) pos.line X.env = pure false := by rfl)
    (hf : X.fn x = true ∨ X.env.scope.names.lookup x = some .local := by first | exact .inl rfl | exact .inr rfl | assumption) : SS X (.Assign [.Name x pos'] e pos) (sSet i me) := ⟨fun W tk => PS.imp (ps_set hN hi hx (he.run W tk) hs hf) fun E σ H q => by
  obtain ⟨mp, st, ρ, R, re, P⟩ := tS_toS (Rel := Rv (gm X)) (x := me) (k := fun ρ d st1 => .nx (ρ.set i (some d)) st1) q
  exact ⟨mp, st, ρ, R, re, P.mono fun x H1 ⟨mp1, st1, ρ1, d, R1, re1, r1, P1⟩ => P1 mp1 H1 _ (Ext.refl _ _) R1 (re1.set i r1)⟩⟩
/-- a, b = x, y of plain locals -/
def sPar (i j : Nat) (ma mb : ME) : MS := fun ρ st => (ma ρ st).toS ρ fun d st1 => (mb ρ st1).toS ρ fun e st2 => .nx ((ρ.set i (some d)).set j (some e)) st2
theorem s_par {i j : Nat} {x y : Str} {a b : Expr} {ma mb : ME} {px py pt : Pos} {kt k2 : Nat} {pt2 : Pos} (hc : X.calm = true) (hN : X.N.Nodup) (hi : X.N[i]? = some x) (hj : X.N[j]? = some y) (hij : i ≠ j)
    (hx : X.env.scope.names.lookup x = some .local) (hy : X.env.scope.names.lookup y = some .local) (ha : SE X a ma) (hb : SE X b mb)
    (hw : swappedStores [.Tuple [.Name x px, .Name y py] kt pt] (.Tuple [a, b] k2 pt2) X.env = pure (some [x, y]))
    (hs : swapsWithSole [.Tuple [.Name x px, .Name y py] kt pt] (.Tuple [a, b] k2 pt2) pos.line X.env = pure false := by rfl)
    (h1 : starEach [a, b] X.env = (false, eval a X.env) :: starEach [b] X.env := by rfl) (h2 : starEach [b] X.env = (false, eval b X.env) :: starEach [] X.env := by rfl) :
    SS X (.Assign [.Tuple [.Name x px, .Name y py] kt pt] (.Tuple [a, b] k2 pt2) pos) (sPar i j ma mb) := ⟨fun W tk => PS.imp (ps_par hc hN hi hj hij hx hy (pa_cons (ha.run W tk) (pa_cons (hb.run W tk) pa_nil h2) h1) hw hs) fun E σ H q => by
  obtain ⟨mp, st, ρ, R, re, P⟩ := tS_toS (Rel := Rv (gm X)) (x := ma) (k := fun ρ d st1 => (mb ρ st1).toS ρ fun e st2 => .nx ((ρ.set i (some d)).set j (some e)) st2) q
  refine ⟨mp, st, ρ, R, re, P.mono fun x H1 ⟨mp1, st1, ρ1, d, R1, re1, r1, P1⟩ => ?_⟩
  obtain ⟨mp2, st2, ρ2, R2, re2, P2⟩ := tG_toS (Rel := Rv (gm X)) (x := mb) R1 re1 P1
  refine ⟨mp2, st2, ρ2, R2, re2, P2.mono fun y H2 ⟨mp3, st3, e, _, x3, R3, re3, r3, P3⟩ => ?_⟩
  exact ⟨x, y, rfl, P3 mp3 H2 _ (Ext.refl _ _) R3 ((re3.set i (Rv.ext x3 _ _ r1)).set j r3)⟩⟩
end

/-! ### what is walked -/
def WalkRel (Γ : Gm) (mp : List Addr) (H : Hp) (ds : List D) (J : It) : Prop := ∃ (G : Hp → Prop) (Y : Nat → Hp → V → Hp → Prop), Walk J ds.length G Y ∧ (∀ mp' H', Ext mp H mp' H' → G H') ∧
  ∀ mp' H' st' i x H'', Ext mp H mp' H' → RelM Γ mp' H' st' → i < ds.length → Y i H' x H'' → (∀ a o, H' a = some o → H'' a = some o) ∧ ∃ d, ds[i]? = some d ∧ Rv Γ mp' H'' d x
theorem WalkRel.ext {Γ : Gm} {mp mp' : List Addr} {H H' : Hp} {ds : List D} {J : It} (h : WalkRel Γ mp H ds J) (e : Ext mp H mp' H') : WalkRel Γ mp' H' ds J := by
  obtain ⟨G, Y, w, g, y⟩ := h
  exact ⟨G, Y, w, fun m2 H2 e2 => g m2 H2 (e.trans e2), fun m2 H2 st2 i x H3 e2 => y m2 H2 st2 i x H3 (e.trans e2)⟩
structure SI (X : Cx) (tg iter : Expr) (mi : ML) : Prop where
  run : ∀ W, Takes X W → PI X tg iter (tG (gm X) (WalkRel (gm X)) W mi)
theorem PI.imp {X : Cx} {tg e : Expr} {t t' : TI} (h : PI X tg e t) (i : ∀ σ H Q, t' σ H Q → t σ H Q) : PI X tg e t' := ⟨fun pins s σ H Q I q => h.run pins s σ H Q I (i σ H Q q)⟩
theorem PI.or {X : Cx} {tg e : Expr} {t t' : TI} (h : PI X tg e t) (h' : PI X tg e t') : PI X tg e (fun σ H Q => t σ H Q ∨ t' σ H Q) := ⟨fun pins s σ H Q I q => q.elim (h.run pins s σ H Q I) (h'.run pins s σ H Q I)⟩
/-- a list that stands still, a tuple -/
theorem walk_lst {Γ : Gm} {mp : List Addr} {H : Hp} {a : Addr} {vs : List V} {ds : List D} (hl : ∀ mp' H', Ext mp H mp' H' → SqL Γ.K H' a vs) (r : RvL Γ mp H ds vs) : WalkRel Γ mp H ds (Itl Γ.K a) :=
  ⟨_, _, by rw [r.length]; exact walk_list (xs := vs), hl, fun mp' H' st' i x H'' e _ hi y => by
    obtain ⟨rfl, hx⟩ := y
    obtain ⟨d, h1, h2⟩ := r.getV hx
    exact ⟨fun _ _ z => z, d, h1, Rv.ext e _ _ h2⟩⟩
theorem walk_tp {Γ : Gm} {mp : List Addr} {H : Hp} {a : Addr} {vs : List V} {ds : List D} (hl : ∀ mp' H', Ext mp H mp' H' → SqT Γ.K H' a vs) (r : RvL Γ mp H ds vs) : WalkRel Γ mp H ds (Itt Γ.K a) :=
  ⟨_, _, by rw [r.length]; exact walk_tup (xs := vs), hl, fun mp' H' st' i x H'' e _ hi y => by
    obtain ⟨rfl, hx⟩ := y
    obtain ⟨d, h1, h2⟩ := r.getV hx
    exact ⟨fun _ _ z => z, d, h1, Rv.ext e _ _ h2⟩⟩
/-- the frozen ones -/
def frzD : D → Option (List D)
  | .tup xs => some xs
  | .kt xs => some xs
  | .lst xs => some xs
  | .fz xs => some xs
  | _ => none
def mIt (m : ME) : ML := fun ρ st => (m ρ st).bind fun d st1 => match frzD d with
  | some xs => .ok xs st1
  | none => .bad
section
variable {X : Cx} {tg e e2 : Expr} {m : ME} {pos p tpos : Pos}
theorem frz_walk {Γ : Gm} {mp : List Addr} {H : Hp} {d : D} {x : V} {xs : List D} (h : Rv Γ mp H d x) (e : frzD d = some xs) :
    ∃ a vs, x = .ref a ∧ RvL Γ mp H xs vs ∧ ((∀ mp' H', Ext mp H mp' H' → SqL Γ.K H' a vs) ∨ (∀ mp' H', Ext mp H mp' H' → SqT Γ.K H' a vs)) := by
  cases d with
  | tup ys => simp only [frzD, Option.some.injEq] at e; subst e; simp only [Rv] at h; obtain ⟨a, vs, rfl, q, r⟩ := h; exact ⟨a, vs, rfl, r, .inr fun _ _ e => (q.ext e).sq⟩
  | kt ys => simp only [frzD, Option.some.injEq] at e; subst e; simp only [Rv] at h; obtain ⟨a, vs, rfl, q, r⟩ := h; exact ⟨a, vs, rfl, r, .inr fun _ _ e => (q.ext e).sq⟩
  | lst ys => simp only [frzD, Option.some.injEq] at e; subst e; simp only [Rv] at h; obtain ⟨a, vs, rfl, q, r⟩ := h; exact ⟨a, vs, rfl, r, .inl fun _ _ e => (q.ext e).sq⟩
  | fz ys => simp only [frzD, Option.some.injEq] at e; subst e; simp only [Rv] at h; obtain ⟨a, vs, rfl, q, r⟩ := h; exact ⟨a, vs, rfl, r, .inl fun _ _ e => (q.ext e).sq⟩
  | _ => simp [frzD] at e
theorem si_seq (he : SE X e m) : SI X tg e (mIt m) := ⟨fun W tk => PI.imp (PI.or (pi_list (he.run W tk)) (pi_tup (he.run W tk))) fun σ H Q q => by
  obtain ⟨mp, st, ρ, R, re, P⟩ := q
  have P2 := PostG.bind' (Rel := Rv (gm X)) P
  cases em : m ρ st with
  | bad => rw [em] at P2; exact P2.elim
  | exc x s => rw [em] at P2; exact .inl ⟨mp, st, ρ, R, re, by rw [em]; exact P2⟩
  | ok d st1 =>
    rw [em] at P2
    -- which of the two it is hangs on d alone
    cases ef : frzD d with
    | none => exact .inl ⟨mp, st, ρ, R, re, by
        rw [em]
        intro mp' H' v x1 R1 r1
        obtain ⟨_, _, _, h1, _, _, _, P3⟩ := P2 mp' H' v x1 R1 r1
        cases h1
        simp only [ef] at P3
        exact P3.elim⟩
    | some xs =>
      cases d with
      | tup ys =>
        cases ef
        refine .inr ⟨mp, st, ρ, R, re, ?_⟩
        rw [em]
        intro mp' H' v x1 R1 r1
        obtain ⟨mp2, _, _, h1, x2, R2, r2, P3⟩ := P2 mp' H' v x1 R1 r1
        cases h1
        simp only [Rv] at r2
        obtain ⟨a, vs, rfl, q, r⟩ := r2
        exact ⟨a, rfl, ⟨vs, q.sq⟩, P3 mp2 H' _ (Ext.refl _ _) R2 (walk_tp (fun _ _ e => (q.ext e).sq) r)⟩
      | kt ys =>
        cases ef
        refine .inr ⟨mp, st, ρ, R, re, ?_⟩
        rw [em]
        intro mp' H' v x1 R1 r1
        obtain ⟨mp2, _, _, h1, x2, R2, r2, P3⟩ := P2 mp' H' v x1 R1 r1
        cases h1
        simp only [Rv] at r2
        obtain ⟨a, vs, rfl, q, r⟩ := r2
        exact ⟨a, rfl, ⟨vs, q.sq⟩, P3 mp2 H' _ (Ext.refl _ _) R2 (walk_tp (fun _ _ e => (q.ext e).sq) r)⟩
      | lst ys =>
        cases ef
        refine .inl ⟨mp, st, ρ, R, re, ?_⟩
        rw [em]
        intro mp' H' v x1 R1 r1
        obtain ⟨mp2, _, _, h1, x2, R2, r2, P3⟩ := P2 mp' H' v x1 R1 r1
        cases h1
        simp only [Rv] at r2
        obtain ⟨a, vs, rfl, q, r⟩ := r2
        exact ⟨a, rfl, ⟨vs, q.sq⟩, P3 mp2 H' _ (Ext.refl _ _) R2 (walk_lst (fun _ _ e => (q.ext e).sq) r)⟩
      | fz ys =>
        cases ef
        refine .inl ⟨mp, st, ρ, R, re, ?_⟩
        rw [em]
        intro mp' H' v x1 R1 r1
        obtain ⟨mp2, _, _, h1, x2, R2, r2, P3⟩ := P2 mp' H' v x1 R1 r1
        cases h1
        simp only [Rv] at r2
        obtain ⟨a, vs, rfl, q, r⟩ := r2
        exact ⟨a, rfl, ⟨vs, q.sq⟩, P3 mp2 H' _ (Ext.refl _ _) R2 (walk_lst (fun _ _ e => (q.ext e).sq) r)⟩
      | _ => simp [frzD] at ef⟩
/-- range(n), range(a, b) -/
def rangeL (a : Int) (n : Nat) : List D := (List.range n).map fun i => D.int (a + (i : Nat))
def big62 (i : Int) : Bool := decide (i.natAbs.log2 < 62)
def mRng1 (m : ME) : ML := fun ρ st => (m ρ st).bind fun d st1 => match d with
  | .int n => if big62 n = true then .ok (rangeL 0 n.toNat) st1 else .bad
  | _ => .bad
def mRng2 (m n : ME) : ML := fun ρ st => (m ρ st).bind fun d st1 => (n ρ st1).bind fun e st2 => match d, e with
  | .int a, .int b => if big62 a = true ∧ big62 b = true then .ok (rangeL a (b - a).toNat) st2 else .bad
  | _, _ => .bad
theorem big62_ok {i : Int} (h : big62 i = true) : -(2 ^ 62) ≤ i ∧ i < 2 ^ 62 := by
  simp only [big62, decide_eq_true_eq] at h
  have h2 : i.natAbs < 2 ^ 62 := by
    by_cases h0 : i.natAbs = 0
    · rw [h0]; decide
    · exact (Nat.log2_lt h0).mp h
  have h3 : i.natAbs < 4611686018427387904 := h2
  exact ⟨by omega, by omega⟩
theorem walk_rng {Γ : Gm} {mp : List Addr} {H : Hp} (a : Int) (n : Nat) : WalkRel Γ mp H (rangeL a n) (Itr a n) :=
  ⟨_, _, by simp only [rangeL, List.length_map, List.length_range]; exact walk_range, fun _ _ _ => trivial, fun mp' H' st' i x H'' e _ hi y => by
    obtain ⟨rfl, rfl⟩ := y
    simp only [rangeL, List.length_map, List.length_range] at hi
    exact ⟨fun _ _ z => z, .int (a + (i : Nat)), by simp [rangeL, hi], by simp [Rv]⟩⟩
theorem si_range1 (he : SE X e m) (hg : Gl X "range") (hm : X.mg "range" = none) (hs : starEach [e] X.env = [(false, eval e X.env)] := by rfl) : SI X tg (.Call (.Name "range" p) [e] [] pos) (mRng1 m) :=
  ⟨fun W tk => PI.imp (pi_range1 hg hm (pa_cons (he.run W tk) pa_nil hs) hs) fun σ H Q q => by
    obtain ⟨mp, st, ρ, R, re, P⟩ := tG_bind (Rel := Rv (gm X)) (m := m) (k := fun _ d st1 => match d with | .int n => if big62 n = true then .ok (rangeL 0 n.toNat) st1 else .bad | _ => .bad) q
    refine ⟨mp, st, ρ, R, re, P.mono fun x H1 ⟨mp1, st1, ρ1, d, R1, re1, r1, P1⟩ => ?_⟩
    cases d with
    | int n =>
      simp only [Rv] at r1; subst r1
      dsimp only at P1
      split at P1
      · rename_i hb
        obtain ⟨h1, h2⟩ := big62_ok hb
        exact ⟨n, rfl, h1, h2, P1 mp1 H1 _ (Ext.refl _ _) R1 (walk_rng 0 _)⟩
      · exact P1.elim
    | _ => exact P1.elim⟩
theorem si_range2 {n : ME} (he : SE X e m) (he2 : SE X e2 n) (hg : Gl X "range") (hm : X.mg "range" = none) (hs : starEach [e, e2] X.env = [(false, eval e X.env), (false, eval e2 X.env)] := by rfl) (hs2 : starEach [e2] X.env = [(false, eval e2 X.env)] := by rfl) :
    SI X tg (.Call (.Name "range" p) [e, e2] [] pos) (mRng2 m n) :=
  ⟨fun W tk => PI.imp (pi_range2 hg hm (pa_cons (he.run W tk) (pa_cons (he2.run W tk) pa_nil hs2) (by rw [hs, hs2])) hs hs2) fun σ H Q q => by
    obtain ⟨mp, st, ρ, R, re, P⟩ := tG_bind (Rel := Rv (gm X)) (m := m) (k := fun ρ d st1 => (n ρ st1).bind fun e st2 => match d, e with | .int a, .int b => if big62 a = true ∧ big62 b = true then .ok (rangeL a (b - a).toNat) st2 else .bad | _, _ => .bad) q
    refine ⟨mp, st, ρ, R, re, P.mono fun x H1 ⟨mp1, st1, ρ1, d, R1, re1, r1, P1⟩ => ?_⟩
    obtain ⟨mp2, st2, ρ2, R2, re2, P2⟩ := tG_bindK (Rel := Rv (gm X)) (m := n) R1 re1 P1
    refine ⟨mp2, st2, ρ2, R2, re2, P2.mono fun y H2 ⟨mp3, st3, e, _, x3, R3, re3, r3, P3⟩ => ?_⟩
    cases d with
    | int a =>
      cases e with
      | int b =>
        simp only [Rv] at r1 r3; subst r1 r3
        dsimp only at P3
        split at P3
        · rename_i hb
          obtain ⟨h1, h2⟩ := big62_ok hb.1
          obtain ⟨h3, h4⟩ := big62_ok hb.2
          exact ⟨a, b, rfl, ⟨h1, h2, h3, h4⟩, P3 mp3 H2 _ (Ext.refl _ _) R3 (walk_rng a _)⟩
        · exact P3.elim
      | _ => exact P3.elim
    | _ => exact P3.elim⟩
end

/-! ### for -/
def forL : List D → (D → Env → Mem → RS) → Env → Mem → RS
  | [], _, ρ, st => .nx ρ st
  | d :: ds, f, ρ, st => match f d ρ st with
    | .nx ρ' st' => forL ds f ρ' st'
    | .ct ρ' st' => forL ds f ρ' st'
    | .bk ρ' st' => .nx ρ' st'
    | r => r
def stepF (g : MG) (b : MS) : D → Env → Mem → RS := fun d ρ st => match g d ρ st with
  | .nx ρ1 st1 => b ρ1 st1
  | _ => .bad
def sFor (mi : ML) (g : MG) (b : MS) : MS := fun ρ st => (mi ρ st).toS ρ fun ds st1 => forL ds (stepF g b) ρ st1
section
variable {X : Cx} {tg iter : Expr} {body : List Stmt} {mi : ML} {g : MG} {vs : List Nat} {b : MS} {pos : Pos} {k : Nat}
theorem s_for (c : XC k X) (hi : SI X tg iter mi) (hg : SG X tg vs g) (hb : SSs X body b) (hs : ∀ x, foldedSetIterable iter X.env x = pure x := by intro _; rfl) : SS X (.For tg iter body [] pos) (sFor mi g b) :=
  ⟨fun W tk => PS.imp (ps_for c.po c.calm (hi.run W tk) hg.run (hb.run W tk) hs) fun E σ H q => by
    obtain ⟨mp, st, ρ, R, re, P⟩ := tS_toS (Rel := WalkRel (gm X)) (x := mi) (k := fun ρ ds st1 => forL ds (stepF g b) ρ st1) q
    refine ⟨mp, st, ρ, R, re, P.mono fun J H1 ⟨mp1, st1, ρ1, ds, R1, re1, w1, P1⟩ => ?_⟩
    obtain ⟨G, Y, w, hG, hY⟩ := w1
    refine for_it w (fun i σ2 H2 => ∃ mp2 st2 ρ2, Ext mp1 H1 mp2 H2 ∧ RelM (gm X) mp2 H2 st2 ∧ RelE (gm X) mp2 H2 ρ2 σ2 ∧ PostS (gm X) mp2 H2 (forL (ds.drop i) (stepF g b) ρ2 st2) E W)
      ⟨mp1, st1, ρ1, Ext.refl _ _, R1, re1, P1⟩ (fun i σ2 H2 _ ⟨mp2, _, _, x2, _⟩ => hG mp2 H2 x2) (fun i x σ2 H2 H3 hlt ⟨mp2, st2, ρ2, x2, R2, re2, P2⟩ y => ?_) (fun σ2 H2 ⟨mp2, st2, ρ2, x2, R2, re2, P2⟩ => ?_)
    · obtain ⟨sm, d, hd, rd⟩ := hY mp2 H2 st2 i x H3 x2 R2 hlt y
      have ed : ds.drop i = d :: ds.drop (i + 1) := by rw [List.drop_eq_getElem_cons hlt]; congr 1; rw [List.getElem?_eq_getElem hlt] at hd; exact Option.some.inj hd
      rw [ed] at P2
      have x3 : Ext mp2 H2 mp2 H3 := ext_same sm
      have P3 := P2.ext x3
      refine ⟨mp2, st2, ρ2, d, R2.same sm, re2.ext x3, rd, ?_⟩
      unfold forL stepF at P3
      cases eg : g d ρ2 st2 with
      | nx ρ3 st3 =>
        simp only [eg] at P3
        intro mp4 H4 σ4 x4 R4 re4 _ _
        refine ⟨mp4, st3, ρ3, R4, re4, ?_⟩
        have P4 := P3.ext x4
        have xx : Ext mp1 H1 mp4 H4 := x2.trans (x3.trans x4)
        cases eb : b ρ3 st3 with
        | nx ρ5 st5 =>
          simp only [eb] at P4
          exact fun m6 H6 σ6 x6 R6 re6 => ⟨m6, st5, ρ5, xx.trans x6, R6, re6, P4.ext x6⟩
        | ct ρ5 st5 =>
          simp only [eb] at P4
          exact fun m6 H6 σ6 x6 R6 re6 => ⟨m6, st5, ρ5, xx.trans x6, R6, re6, P4.ext x6⟩
        | bk ρ5 st5 => simp only [eb] at P4; exact P4
        | rt d5 st5 => simp only [eb] at P4; exact P4
        | exc e5 ρ5 st5 => simp only [eb] at P4; exact P4
        | bad => simp only [eb] at P4; exact P4
      | _ => simp only [eg] at P3; exact P3.elim
    · rw [List.drop_length] at P2
      exact post_nx P2 R2 re2⟩
end
end VI
set_option maxHeartbeats 4000000
namespace VI
open PySem PySem.Spec PyProof.Rows L2

/-! ### equality of data and cells -/
mutual
def D.beq' : D → D → Bool
  | .non, .non => true
  | .bl a, .bl b => a == b
  | .int a, .int b => a == b
  | .str a, .str b => a == b
  | .tup a, .tup b => beqL a b
  | .lst a, .lst b => beqL a b
  | .dct k a, .dct l b => decide (k = l) && beqL a b
  | .loc a, .loc b => a == b
  | .gl a, .gl b => a == b
  | .fz a, .fz b => beqL a b
  | .kt a, .kt b => beqL a b
  | _, _ => false
def beqL : List D → List D → Bool
  | [], [] => true
  | x :: xs, y :: ys => x.beq' y && beqL xs ys
  | _, _ => false
end
mutual
theorem D.beq_iff : ∀ a b : D, a.beq' b = true ↔ a = b
  | .non, b => by cases b <;> simp [D.beq']
  | .bl a, b => by cases b <;> simp [D.beq']
  | .int a, b => by cases b <;> simp [D.beq']
  | .str a, b => by cases b <;> simp [D.beq']
  | .loc a, b => by cases b <;> simp [D.beq']
  | .gl a, b => by cases b <;> simp [D.beq']
  | .tup a, b => by cases b <;> simp [D.beq', beqL_iff a]
  | .lst a, b => by cases b <;> simp [D.beq', beqL_iff a]
  | .fz a, b => by cases b <;> simp [D.beq', beqL_iff a]
  | .kt a, b => by cases b <;> simp [D.beq', beqL_iff a]
  | .dct k a, b => by cases b <;> simp [D.beq', beqL_iff a]
theorem beqL_iff : ∀ a b : List D, beqL a b = true ↔ a = b
  | [], b => by cases b <;> simp [beqL]
  | x :: xs, b => by
    cases b with
    | nil => simp [beqL]
    | cons y ys => simp [beqL, D.beq_iff x, beqL_iff xs]
end
instance : DecidableEq D := fun a b => decidable_of_iff _ (D.beq_iff a b)
def Cell.beq' : Cell → Cell → Bool
  | .lst a, .lst b => decide (a = b)
  | .dK a, .dK b => decide (a = b)
  | .dT a, .dT b => decide (a = b)
  | .ins c a, .ins d b => decide (c = d) && decide (a = b)
  | .xo c a, .xo d b => decide (c = d) && decide (a = b)
  | .tmp, .tmp => true
  | _, _ => false
theorem Cell.beq_iff (a b : Cell) : a.beq' b = true ↔ a = b := by cases a <;> cases b <;> simp [Cell.beq']
instance : DecidableEq Cell := fun a b => decidable_of_iff _ (Cell.beq_iff a b)
mutual
/-- no cell from n on -/
def belowD (n : Nat) : D → Bool
  | .tup xs => belowL n xs
  | .kt xs => belowL n xs
  | .lst xs => belowL n xs
  | .fz xs => belowL n xs
  | .dct _ xs => belowL n xs
  | .loc k => decide (k < n)
  | _ => true
def belowL (n : Nat) : List D → Bool
  | [] => true
  | d :: ds => belowD n d && belowL n ds
end
mutual
theorem Rv.less {Γ : Gm} {mp r : List Addr} {H : Hp} : ∀ (d : D) (v : V), belowD mp.length d = true → Rv Γ (mp ++ r) H d v → Rv Γ mp H d v
  | .non, _, _, h => by simpa only [Rv] using h
  | .bl _, _, _, h => by simpa only [Rv] using h
  | .int _, _, _, h => by simpa only [Rv] using h
  | .str _, _, _, h => by simpa only [Rv] using h
  | .gl _, _, _, h => by simpa only [Rv] using h
  | .tup xs, v, b, h => by
    simp only [Rv, belowD] at h b ⊢
    obtain ⟨a, vs, h1, h2, h3⟩ := h
    exact ⟨a, vs, h1, ⟨h2.1, fun z => h2.2 (List.mem_append_left _ z)⟩, RvL.less xs vs b h3⟩
  | .lst xs, v, b, h => by
    simp only [Rv, belowD] at h b ⊢
    obtain ⟨a, vs, h1, h2, h3⟩ := h
    exact ⟨a, vs, h1, ⟨h2.1, fun z => h2.2 (List.mem_append_left _ z)⟩, RvL.less xs vs b h3⟩
  | .kt xs, v, b, h => by
    simp only [Rv, belowD] at h b ⊢
    obtain ⟨a, vs, h1, h2, h3⟩ := h
    exact ⟨a, vs, h1, h2.elim (fun z => .inl ⟨z.1, fun q => z.2 (List.mem_append_left _ q)⟩) .inr, RvL.less xs vs b h3⟩
  | .fz xs, v, b, h => by
    simp only [Rv, belowD] at h b ⊢
    obtain ⟨a, vs, h1, h2, h3⟩ := h
    exact ⟨a, vs, h1, h2.elim (fun z => .inl ⟨z.1, fun q => z.2 (List.mem_append_left _ q)⟩) .inr, RvL.less xs vs b h3⟩
  | .dct ks xs, v, b, h => by
    simp only [Rv, belowD] at h b ⊢
    obtain ⟨a, vs, h1, h2, h3, h4, h5⟩ := h
    exact ⟨a, vs, h1, h2, fun z => h3 (List.mem_append_left _ z), h4, RvL.less xs vs b h5⟩
  | .loc n, v, b, h => by
    simp only [Rv, belowD, decide_eq_true_eq] at h b ⊢
    obtain ⟨a, h1, h2⟩ := h
    exact ⟨a, h1, by rw [List.getElem?_append_left b] at h2; exact h2⟩
theorem RvL.less {Γ : Gm} {mp r : List Addr} {H : Hp} : ∀ (ds : List D) (vs : List V), belowL mp.length ds = true → RvL Γ (mp ++ r) H ds vs → RvL Γ mp H ds vs
  | [], _, _, h => by simpa only [RvL] using h
  | d :: ds, vs, b, h => by
    simp only [RvL, belowL, Bool.and_eq_true] at h b ⊢
    obtain ⟨v, s, h1, h2, h3⟩ := h
    exact ⟨v, s, h1, Rv.less d v b.1 h2, RvL.less ds s b.2 h3⟩
end
def Cell.below (n : Nat) : Cell → Bool
  | .lst xs => belowL n xs
  | .dK kvs => belowL n (kvs.map (·.2))
  | .dT kvs => belowL n (kvs.map (·.2))
  | .ins _ fs => belowL n (fs.map (·.2))
  | .xo _ fs => belowL n (fs.map (·.2))
  | .tmp => true
theorem RelC.less {Γ : Gm} {mp r : List Addr} {H : Hp} {a : Addr} {c : Cell} (h : RelC Γ (mp ++ r) H a c) (b : c.below mp.length = true) : RelC Γ mp H a c := by
  cases c with
  | lst xs => obtain ⟨vs, h1, h2⟩ := h; exact ⟨vs, h1, RvL.less _ _ b h2⟩
  | dK xs => obtain ⟨vs, h1, k, h2⟩ := h; exact ⟨vs, h1, k, RvL.less _ _ b h2⟩
  | dT xs => obtain ⟨vs, h1, k, h2⟩ := h; exact ⟨vs, h1, k, RvL.less _ _ b h2⟩
  | ins c xs => obtain ⟨C, dx, vs, h1, m, k, h2⟩ := h; exact ⟨C, dx, vs, h1, m, k, RvL.less _ _ b h2⟩
  | xo c xs =>
    obtain ⟨C, m, z | ⟨d, vs, h1, hd, nd, k, h2⟩⟩ := h
    · exact ⟨C, m, .inl z⟩
    · exact ⟨C, m, .inr ⟨d, vs, h1, hd, fun z => nd (List.mem_append_left _ z), k, RvL.less _ _ b h2⟩⟩
  | tmp => exact h
/-- the first n cells alone -/
theorem RelM.less {Γ : Gm} {mp r : List Addr} {H : Hp} {st : Mem} (R : RelM Γ (mp ++ r) H st) (b : (st.take mp.length).all (Cell.below mp.length) = true) : RelM Γ mp H (st.take mp.length) := by
  have hl := R.len
  rw [List.length_append] at hl
  refine ⟨by rw [List.length_take]; omega, (List.nodup_append.mp R.nd).1, fun n c a e1 e2 => ?_, R.tabs⟩
  have hn := (List.getElem?_eq_some_iff.mp e2).1
  have e1' := e1
  rw [List.getElem?_take_of_lt hn] at e1
  exact (R.cell n c a e1 (by rw [List.getElem?_append_left hn]; exact e2)).less (List.all_eq_true.mp b c (List.mem_of_getElem? e1'))
/-- a start of the cells -/
theorem Ext.less {mp r mp1 : List Addr} {H H1 : Hp} (e : Ext mp H mp1 H1) (h : mp1 = mp ++ r) : Ext mp H mp H1 :=
  ⟨fun _ _ z => z, fun a o q z n => ⟨(e.keep a o q z n).1, n⟩⟩

mutual
theorem Rv.below {Γ : Gm} {mp : List Addr} {H : Hp} : ∀ (d : D) (v : V), Rv Γ mp H d v → belowD mp.length d = true
  | .non, _, _ | .bl _, _, _ | .int _, _, _ | .str _, _, _ | .gl _, _, _ => by simp [belowD]
  | .tup xs, _, h | .lst xs, _, h | .kt xs, _, h | .fz xs, _, h => by
    simp only [Rv] at h
    obtain ⟨a, vs, _, _, r⟩ := h
    simp only [belowD]
    exact RvL.below xs vs r
  | .dct ks xs, _, h => by
    simp only [Rv] at h
    obtain ⟨a, vs, _, _, _, _, r⟩ := h
    simp only [belowD]
    exact RvL.below xs vs r
  | .loc n, _, h => by
    simp only [Rv] at h
    obtain ⟨a, _, r⟩ := h
    simp only [belowD, decide_eq_true_eq]
    exact (List.getElem?_eq_some_iff.mp r).1
theorem RvL.below {Γ : Gm} {mp : List Addr} {H : Hp} : ∀ (ds : List D) (vs : List V), RvL Γ mp H ds vs → belowL mp.length ds = true
  | [], _, _ => rfl
  | d :: ds, vs, h => by
    simp only [RvL] at h
    obtain ⟨v, s, h1, h2, h3⟩ := h
    simp only [belowL, Bool.and_eq_true]
    exact ⟨Rv.below d v h2, RvL.below ds s h3⟩
end
theorem RelC.below {Γ : Gm} {mp : List Addr} {H : Hp} {a : Addr} {c : Cell} (h : RelC Γ mp H a c) : c.below mp.length = true := by
  cases c with
  | lst xs => obtain ⟨vs, h1, h2⟩ := h; exact RvL.below _ _ h2
  | dK xs => obtain ⟨vs, h1, k, h2⟩ := h; exact RvL.below _ _ h2
  | dT xs => obtain ⟨vs, h1, k, h2⟩ := h; exact RvL.below _ _ h2
  | ins c xs => obtain ⟨C, dx, vs, h1, m, k, h2⟩ := h; exact RvL.below _ _ h2
  | xo c xs =>
    obtain ⟨C, m, ⟨z, _⟩ | ⟨d, vs, h1, hd, nd, k, h2⟩⟩ := h
    · subst z; rfl
    · exact RvL.below _ _ h2
  | tmp => rfl
theorem RelM.below {Γ : Gm} {mp : List Addr} {H : Hp} {st : Mem} (R : RelM Γ mp H st) : st.all (Cell.below mp.length) = true := by
  rw [List.all_eq_true]
  intro c hc
  obtain ⟨n, hn, e⟩ := List.mem_iff_getElem.mp hc
  have hn' : n < mp.length := by rw [R.len]; exact hn
  exact (R.cell n c mp[n] (by simp [hn, e]) (by simp [hn'])).below
/-- the cells behind st0's may be thrown away -/
def clean (st0 st : Mem) : Bool := decide (st.take st0.length = st0) || (decide (st0.length ≤ st.length) && (st.take st0.length).all (Cell.below st0.length))
theorem clean_ok {Γ : Gm} {mp : List Addr} {H : Hp} {st0 st : Mem} (R : RelM Γ mp H st0) (h : clean st0 st = true) : (st.take mp.length).all (Cell.below mp.length) = true := by
  unfold clean at h
  rw [← R.len] at h
  rcases Bool.or_eq_true _ _ |>.mp h with h | h
  · rw [decide_eq_true_eq] at h
    rw [h]
    exact R.below
  · exact (Bool.and_eq_true _ _ |>.mp h).2
@[simp] theorem clean_self (st : Mem) : clean st st = true := by simp [clean]
@[simp] theorem clean_app (st s : Mem) : clean st (st ++ s) = true := by simp [clean]

/-- the cells behind st0's thrown away, where nothing asks for them -/
def dropR (st0 : Mem) (r : Res D) : Res D := match r with
  | .ok d st => if belowD st0.length d && clean st0 st then .ok d (st.take st0.length) else .bad
  | .exc e st => if belowL st0.length (e.fs.map (·.2)) && clean st0 st then .exc e (st.take st0.length) else .bad
  | .bad => .bad
theorem RelX.less {Γ : Gm} {mp r : List Addr} {H : Hp} {e : Ex} {cls : Value} {dd : Option Addr} (h : RelX Γ (mp ++ r) H e cls dd) (b : belowL mp.length (e.fs.map (·.2)) = true) : RelX Γ mp H e cls dd := by
  obtain ⟨C, d, vs, h1, h2, h3, h4, h5, h6, h7⟩ := h
  exact ⟨C, d, vs, h1, h2, h3, h4, fun z => h5 (List.mem_append_left _ z), h6, RvL.less _ _ b h7⟩
theorem pre_eq {mp mp' : List Addr} (h : ∀ (n : Nat) (a : Addr), mp[n]? = some a → mp'[n]? = some a) : ∃ r, mp' = mp ++ r := by
  induction mp generalizing mp' with
  | nil => exact ⟨mp', rfl⟩
  | cons a mp ih =>
    cases mp' with
    | nil => have := h 0 a rfl; simp at this
    | cons b mp' =>
      have h0 := h 0 a rfl
      simp at h0
      obtain ⟨r, hr⟩ := ih (mp' := mp') fun n x hx => by simpa using h (n + 1) x (by simpa using hx)
      exact ⟨r, by rw [h0, hr]; rfl⟩
theorem post_drop {Γ : Gm} {mp : List Addr} {H : Hp} {st0 : Mem} {r : Res D} {Q : VK} {W : XK} (R0 : RelM Γ mp H st0) (P : Post Γ mp H (dropR st0 r) Q W) : Post Γ mp H r Q W := by
  cases r with
  | ok d st =>
    unfold dropR at P
    dsimp only at P
    split at P
    · rename_i hc
      rw [Bool.and_eq_true] at hc
      intro mp1 H1 v x R rv
      obtain ⟨s, hs⟩ := pre_eq x.pre
      subst hs
      rw [← R0.len] at P hc
      exact P mp H1 v (x.less rfl) (R.less (clean_ok R0 hc.2)) (Rv.less _ _ hc.1 rv)
    · exact P.elim
  | exc e st =>
    unfold dropR at P
    dsimp only at P
    split at P
    · rename_i hc
      rw [Bool.and_eq_true] at hc
      intro mp1 H1 c dd x R rx
      obtain ⟨s, hs⟩ := pre_eq x.pre
      subst hs
      rw [← R0.len] at P hc
      exact P mp H1 c dd (x.less rfl) (R.less (clean_ok R0 hc.2)) (rx.less hc.1)
    · exact P.elim
  | bad => exact P

/-! ### list comprehensions -/
def wipeE (ρ : Env) : List Nat → Env
  | [] => ρ
  | v :: vs => (wipeE ρ vs).set v none
/-- nothing may be raised within -/
def Res.noX {α : Type} : Res α → Res α
  | .exc _ _ => .bad
  | r => r
@[simp] theorem Res.noX_ok {α : Type} (a : α) (st : Mem) : (Res.ok a st).noX = .ok a st := rfl
/-- a turn's tests and element -/
def stepL (g : MG) (t : MB) (m : ME) (vs : List Nat) (ρ : Env) : D → Mem → Res (Option D) := fun d st => match g d (wipeE ρ vs) st with
  | .nx ρ1 st1 => (t ρ1 st1).noX.bind fun b st2 => if b = true then (m ρ1 st2).noX.bind fun y st3 => .ok (some y) st3 else .ok none st2
  | _ => .bad
/-- an item more in the list's cell -/
def pushL (n : Nat) (o : Option D) (st : Mem) : Res Unit := match o with
  | none => .ok () st
  | some y => match st[n]? with
    | some (.lst acc) => if acc.length < LINE then .ok () (st.set n (.lst (acc ++ [y]))) else .bad
    | _ => .bad
def lcL (n : Nat) : List D → (D → Mem → Res (Option D)) → Mem → Res Unit
  | [], _, st => .ok () st
  | d :: ds, f, st => (f d st).bind fun o st1 => (pushL n o st1).bind fun _ st2 => lcL n ds f st2
/-- a frozen list of it, where no other cell stays; a cell of it -/
def finF (st0 st : Mem) : Res D := match st[st0.length]? with
  | some (.lst xs) => if belowL st0.length xs && clean st0 st then .ok (.lst xs) (st.take st0.length) else .bad
  | _ => .bad
def finN (st0 st : Mem) : Res D := .ok (.loc st0.length) st
def mLC (fin : Mem → Mem → Res D) (mi : ML) (g : MG) (t : MB) (m : ME) (vs : List Nat) : ME := fun ρ st => (mi ρ st).bind fun ds st1 => (lcL st1.length ds (stepL g t m vs ρ) (st1 ++ [.lst []])).bind fun _ st2 => fin st1 st2
/-- what an end must bear: A is the list's address -/
def FinOk (fin : Mem → Mem → Res D) : Prop := ∀ (Γ : Gm) (mp mp1 : List Addr) (H H1 : Hp) (A : Addr) (st0 st : Mem) (Q : VK) (W : XK),
  RelM Γ mp H st0 → mp1[st0.length]? = some A → Ext mp H mp1 H1 → RelM Γ mp1 H1 st → Post Γ mp H (fin st0 st) Q W → Q (.ref A) H1
theorem finN_ok : FinOk finN := fun Γ mp mp1 H H1 A st0 st Q W R0 hA x R P => P mp1 H1 _ x R (by simp only [Rv]; exact ⟨A, rfl, hA⟩)
theorem finF_ok : FinOk finF := fun Γ mp mp1 H H1 A st0 st Q W R0 hA x R P => by
  unfold finF at P
  split at P
  · rename_i xs hs
    split at P
    · rename_i hc
      rw [Bool.and_eq_true] at hc
      obtain ⟨vs, h1, h2⟩ := R.cell _ _ A hs hA
      obtain ⟨s, e⟩ := pre_eq x.pre
      subst e
      rw [← R0.len] at P hc hA
      refine P mp H1 (.ref A) (x.less rfl) (R.less (clean_ok R0 hc.2)) ?_
      simp only [Rv]
      refine ⟨A, vs, rfl, ⟨h1, fun z => ?_⟩, RvL.less _ _ hc.1 h2⟩
      obtain ⟨n, hn, q⟩ := List.mem_iff_getElem.mp z
      have a1 : (mp ++ s)[n]? = some A := by rw [List.getElem?_append_left hn]; simp [hn, q]
      have nd := R.nd
      obtain ⟨b1, c1⟩ := List.getElem?_eq_some_iff.mp a1
      obtain ⟨b2, c2⟩ := List.getElem?_eq_some_iff.mp hA
      have : n = mp.length := (List.getElem_inj nd).mp (c1.trans c2.symm)
      omega
    · exact P.elim
  · exact P.elim
theorem wipeE_rel {Γ : Gm} {mp : List Addr} {H : Hp} {ρ : Env} {σ : L2.St} (h : RelE Γ mp H ρ σ) : ∀ vs : List Nat, RelE Γ mp H (wipeE ρ vs) (wipe σ vs)
  | [] => h
  | v :: vs => by
    have ih := wipeE_rel h vs
    unfold wipeE wipe
    refine ⟨by rw [List.length_set, List.length_set, ih.1], fun i d e => ?_⟩
    by_cases hi : v = i
    · subst hi
      by_cases hv : v < (wipeE ρ vs).length
      · rw [List.getElem?_set_self hv] at e; cases e
      · rw [List.getElem?_eq_none (by simpa using hv)] at e; cases e
    · rw [List.getElem?_set_ne hi] at e ⊢
      exact ih.2 i d e
theorem wipe_get {σ : L2.St} : ∀ {vs : List Nat} {j : Nat}, (wipe σ vs)[j]? = if j ∈ vs ∧ j < σ.length then some none else σ[j]?
  | [], j => by simp [wipe]
  | v :: vs, j => by
    unfold wipe
    by_cases hj : v = j
    · subst hj
      by_cases hl : v < σ.length
      · rw [List.getElem?_set_self (by rw [wipe_length]; exact hl)]
        simp [hl]
      · rw [List.getElem?_eq_none (by rw [List.length_set, wipe_length]; omega), List.getElem?_eq_none (by omega)]
        simp [hl]
    · rw [List.getElem?_set_ne hj, wipe_get (vs := vs)]
      have : j ∈ v :: vs ↔ j ∈ vs := by simp [Ne.symm hj]
      simp only [this]
theorem wipe_same {σ σ2 : L2.St} {vs : List Nat} (hl : σ2.length = (wipe σ vs).length) (h : ∀ j : Nat, j ∉ vs → σ2[j]? = (wipe σ vs)[j]?) : wipe σ2 vs = wipe σ vs := by
  apply List.ext_getElem?
  intro j
  rw [wipe_length] at hl
  rw [wipe_get (σ := σ2), hl]
  by_cases hj : j ∈ vs
  · rw [wipe_get (σ := σ)]
    split
    · rfl
    · rename_i hc
      have : ¬ j < σ.length := fun z => hc ⟨hj, z⟩
      rw [List.getElem?_eq_none (by omega), List.getElem?_eq_none (by omega)]
  · rw [if_neg (fun z => hj z.1)]
    exact h j hj
structure STs (X : Cx) (ifs : List Expr) (t : MB) : Prop where
  run : ∀ W, Takes X W → PTs X ifs (tB' (gm X) W t)
def mYes : MB := fun _ st => .ok true st
theorem PTs.imp {X : Cx} {e : List Expr} {t t' : TT} (h : PTs X e t) (i : ∀ σ H Q, t' σ H Q → t σ H Q) : PTs X e t' := ⟨fun pins s σ H Q I q => h.run pins s σ H Q I (i σ H Q q)⟩
theorem sts_nil {X : Cx} : STs X [] mYes := ⟨fun W tk => PTs.imp pts_nil fun σ H Q ⟨mp, st, ρ, R, re, P⟩ => P mp H true (Ext.refl _ _) R rfl⟩
theorem sts_one {X : Cx} {c : Expr} {t : MB} (h : ST X c t) : STs X [c] t := ⟨fun W tk => pts_one (h.run W tk)⟩
theorem post_noX {α β : Type} {Γ : Gm} {Rel : List Addr → Hp → α → β → Prop} {mp : List Addr} {H : Hp} {r : Res α} {Q : β → Hp → Prop} {W W' : XK} (h : PostG Γ Rel mp H r.noX Q W) : PostG Γ Rel mp H r Q W' := by
  cases r with
  | ok a st => exact h
  | exc e st => exact h.elim
  | bad => exact h.elim

abbrev W0 : WX := fun _ _ _ _ => False
/-- the comprehension's own reading -/
theorem tLc_of {Γ : Gm} {W : WX} {σ : L2.St} {H : Hp} {Q : VK} {fin : Mem → Mem → Res D} (hf : FinOk fin) {mi : ML} {g : MG} {t : MB} {m : ME} {vs us : List Nat} (hus : ∀ j, j ∈ us → j ∈ vs) (h : tE Γ W (mLC fin mi g t m vs) σ H Q) :
    tLc (tG Γ (WalkRel Γ) W mi) (tN Γ us g) (tB' Γ W0 t) (tE Γ W0 m) vs σ H Q := by
  obtain ⟨mp, st, ρ, R, re, P⟩ := tG_bind (Rel := WalkRel Γ) (m := mi) (k := fun ρ ds st1 => (lcL st1.length ds (stepL g t m vs ρ) (st1 ++ [.lst []])).bind fun _ st2 => fin st1 st2) h
  refine ⟨mp, st, ρ, R, re, P.mono fun J H1 ⟨mp1, st1, ρ1, ds, R1, re1, w1, P1⟩ A hA => ?_⟩
  have xA : Ext mp1 H1 (mp1 ++ [A]) (upd H1 A (.lst [])) := ext_cell hA
  have RA : RelM Γ (mp1 ++ [A]) (upd H1 A (.lst [])) (st1 ++ [.lst []]) := R1.push hA ⟨[], upd_same, RvL.nil⟩
  obtain ⟨G, Y, w, hG, hY⟩ := w1.ext xA
  have nA : (mp1 ++ [A])[st1.length]? = some A := by rw [← R1.len]; simp
  refine lc_it w (fun i H2 => ∃ mp2 st2, Ext (mp1 ++ [A]) (upd H1 A (.lst [])) mp2 H2 ∧ RelM Γ mp2 H2 st2 ∧
      Post Γ mp1 H1 ((lcL st1.length (ds.drop i) (stepL g t m vs ρ1) st2).bind fun _ st3 => fin st1 st3) Q (fun c d H' => W c d σ H'))
    ?start ?G ?turn ?fin
  case start => exact ⟨_, _, Ext.refl _ _, RA, P1⟩
  case G => exact fun i H2 _ ⟨mp2, _, x2, _⟩ => hG mp2 H2 x2
  case fin =>
    rintro H2 ⟨mp2, st2, x2, R2, P2⟩
    rw [List.drop_length] at P2
    simp only [lcL, Res.ok_bind] at P2
    exact hf Γ mp1 mp2 H1 H2 A st1 st2 Q _ R1 (x2.pre _ _ nA) (xA.trans x2) R2 P2
  case turn =>
    rintro i x H2 H3 hlt ⟨mp2, st2, x2, R2, P2⟩ y
    obtain ⟨sm, d, hd, rd⟩ := hY mp2 H2 st2 i x H3 x2 R2 hlt y
    have ed : ds.drop i = d :: ds.drop (i + 1) := by rw [List.drop_eq_getElem_cons hlt]; congr 1; rw [List.getElem?_eq_getElem hlt] at hd; exact Option.some.inj hd
    rw [ed] at P2
    have x3 : Ext mp2 H2 mp2 H3 := ext_same sm
    have xx3 := x2.trans x3
    refine ⟨mp2, st2, wipeE ρ1 vs, d, R2.same sm, wipeE_rel (re1.ext (xA.trans xx3)) vs, rd, ?_⟩
    unfold lcL stepL at P2
    cases eg : g d (wipeE ρ1 vs) st2 with
    | nx ρ4 st4 =>
      simp only [eg] at P2
      intro mp4 H4 σ4 x4 R4 re4 l4 k4
      have xx4 := xx3.trans x4
      refine ⟨wipe_same l4 fun j hj => k4 j fun z => hj (hus j z), mp4, st4, ρ4, R4, re4, ?_⟩
      -- the test
      cases et : t ρ4 st4 with
      | bad => rw [et] at P2; exact P2.elim
      | exc e s => rw [et] at P2; exact P2.elim
      | ok b st5 =>
        simp only [et, Res.noX_ok, Res.ok_bind] at P2
        intro mp5 H5 b' x5 R5 rb
        cases rb
        have xx5 := xx4.trans x5
        cases b with
        | false =>
          simp only [Bool.false_eq_true, if_false, Res.ok_bind, pushL] at P2
          rw [if_neg Bool.false_ne_true]
          exact ⟨mp5, st5, xx5, R5, P2⟩
        | true =>
          simp only [if_true] at P2
          rw [if_pos rfl]
          refine ⟨mp5, st5, ρ4, R5, re4.ext x5, ?_⟩
          cases ee : m ρ4 st5 with
          | bad => rw [ee] at P2; exact P2.elim
          | exc e s => rw [ee] at P2; exact P2.elim
          | ok z st6 =>
            simp only [ee, Res.noX_ok, Res.ok_bind, pushL] at P2
            intro mp6 H6 v x6 R6 rz
            have xx6 := xx5.trans x6
            split at P2
            · rename_i acc hacc
              obtain ⟨vs', h1, h2⟩ := R6.cell _ _ A hacc (xx6.pre _ _ nA)
              split at P2
              · rename_i hl
                simp only [Res.ok_bind] at P2
                refine ⟨vs', h1, by rw [← h2.length, sizeLine_eq]; exact hl, mp6, _, xx6.trans (ext_write (List.mem_of_getElem? (xx6.pre _ _ nA))), R6.write (c := .lst (acc ++ [z])) (xx6.pre _ _ nA) h1 (show ∃ vs, _ = some (HO.lst vs) ∧ _ from ⟨_, upd_same, ?_⟩), P2⟩
                exact RvL.ext (ext_write (List.mem_of_getElem? (xx6.pre _ _ nA))) _ _ (h2.append (RvL.cons rz RvL.nil))
              · exact P2.elim
            · exact P2.elim
    | _ => simp only [eg] at P2; exact P2.elim
section
variable {X : Cx} {elt tg iter : Expr} {ifs : List Expr} {scope : Scope} {own : List (Str × Nat)} {pos : Pos} {mi : ML} {g : MG} {t : MB} {m : ME} {us : List Nat} {k : Nat} {fin : Mem → Mem → Res D}
theorem se_lc (hf : FinOk fin) (c : XC k X) (hi : SI X tg iter mi) (ok : blkC X.N X.env.scope scope own = true) (hus : ∀ j, j ∈ us → j ∈ own.map (·.2))
    (hg : ∀ (s : Shared) (H : Hp) (C : Addr) (cl : List (Str × Addr)) (fp : List Addr), XC k (X.blk s H scope (compEnvC scope cl C X.env) fp) → SG (X.blk s H scope (compEnvC scope cl C X.env) fp) tg us g)
    (ht : ∀ (s : Shared) (H : Hp) (C : Addr) (cl : List (Str × Addr)) (fp : List Addr), XC k (X.blk s H scope (compEnvC scope cl C X.env) fp) → STs (X.blk s H scope (compEnvC scope cl C X.env) fp) ifs t)
    (he : ∀ (s : Shared) (H : Hp) (C : Addr) (cl : List (Str × Addr)) (fp : List Addr), XC k (X.blk s H scope (compEnvC scope cl C X.env) fp) → SE (X.blk s H scope (compEnvC scope cl C X.env) fp) elt m)
    (hs : ∀ x, foldedSetIterable iter X.env x = pure x := by intro _; rfl) : SE X (.ListComp elt [⟨tg, iter, ifs, 0⟩] scope pos) (mLC fin mi g t m (own.map (·.2))) :=
  ⟨fun W tk => PE.imp (pe_lc (own := own) c.calm c.nd (hi.run W tk) (blkOk_by ok) (fun s H C cl fp => (hg s H C cl fp (c.blk _ _ _ _ _)).run) (fun s H C cl fp => (ht s H C cl fp (c.blk _ _ _ _ _)).run W0 takes0) (fun s H C cl fp => (he s H C cl fp (c.blk _ _ _ _ _)).run W0 takes0) hs)
    fun σ H Q q => tLc_of hf hus q⟩
theorem s_setLc {i : Nat} {y : Str} {py spos : Pos} (hf : FinOk fin) (c : XC k X) (hy : X.N[i]? = some y) (hyl : X.env.scope.names.lookup y = some .local)
    (hsw : swapsWith (.ListComp elt [⟨tg, iter, ifs, 0⟩] scope pos) (some (.Name y py)) spos.line X.env = pure true) (hi : SI X tg iter mi) (ok : blkC X.N X.env.scope scope own = true) (hus : ∀ j, j ∈ us → j ∈ own.map (·.2))
    (hg : ∀ (s : Shared) (H : Hp) (C : Addr) (cl : List (Str × Addr)) (fp : List Addr), XC k (X.blk s H scope (compEnvC scope cl C X.env) fp) → SG (X.blk s H scope (compEnvC scope cl C X.env) fp) tg us g)
    (ht : ∀ (s : Shared) (H : Hp) (C : Addr) (cl : List (Str × Addr)) (fp : List Addr), XC k (X.blk s H scope (compEnvC scope cl C X.env) fp) → STs (X.blk s H scope (compEnvC scope cl C X.env) fp) ifs t)
    (he : ∀ (s : Shared) (H : Hp) (C : Addr) (cl : List (Str × Addr)) (fp : List Addr), XC k (X.blk s H scope (compEnvC scope cl C X.env) fp) → SE (X.blk s H scope (compEnvC scope cl C X.env) fp) elt m)
    (hs : ∀ x, foldedSetIterable iter X.env x = pure x := by intro _; rfl) : SS X (.Assign [.Name y py] (.ListComp elt [⟨tg, iter, ifs, 0⟩] scope pos) spos) (sSet i (mLC fin mi g t m (own.map (·.2)))) :=
  ⟨fun W tk => PS.imp (ps_setLc (own := own) c.calm c.nd hy hyl hsw (hi.run W tk) (blkOk_by ok) (fun s H C cl fp => (hg s H C cl fp (c.blk _ _ _ _ _)).run) (fun s H C cl fp => (ht s H C cl fp (c.blk _ _ _ _ _)).run W0 takes0) (fun s H C cl fp => (he s H C cl fp (c.blk _ _ _ _ _)).run W0 takes0) hs)
    fun E σ H q => by
      obtain ⟨mp, st, ρ, R, re, P⟩ := q
      have q2 : tE (gm X) W (mLC fin mi g t m (own.map (·.2))) σ H (fun x H1 => gName i x σ H1 E.nx) := ⟨mp, st, ρ, R, re, (P.toS re).mono fun x H1 ⟨mp1, st1, d, _, _, R1, r1, re1, P1⟩ => P1 mp1 H1 _ (Ext.refl _ _) R1 (re1.set i r1)⟩
      exact tLc_of hf hus q2⟩
end
end VI
set_option maxHeartbeats 4000000
namespace VI
open PySem PySem.Spec PyProof.Rows L2

/-! ### tables -/
/-- the tables as a def finds them, and no table of two names -/
structure TabAll (K : PySem.W.Frag) (mg : Str → Option Value) (base : Heap) : Prop where
  tb : ∀ t ∈ codeT K, LamX.TabB base mg t.1 t.2.1
  uq : ∀ p ∈ tabT K, ∀ q ∈ tabT K, p.1 = q.1 → p.2 = q.2
/-- a def's code object is one of them -/
def LamOk (K : PySem.W.Frag) (x : Str) (cdv : Value) : Prop := ∃ c P, cdv = .ref c ∧ (c, P, x ++ ".<locals>." ++ "<lambda>") ∈ codeT K
/-- where lambdas may be made -/
structure XL (X : Cx) : Prop where
  ta : TabAll X.K X.mg X.base
  lam : ∃ c P, X.env.code = .ref c ∧ (c, P, X.env.qual ++ "<lambda>") ∈ codeT X.K
theorem XL.blk {X : Cx} (l : XL X) (s : Shared) (H : Hp) (scope : Scope) (cl : List (Str × Addr)) (C : Addr) (fp : List Addr) : XL (X.blk s H scope (compEnvC scope cl C X.env) fp) := ⟨l.ta, l.lam⟩

/-! ### defs -/
section
variable (P : Program) (w : World) (K : PySem.W.Frag) (mg : Str → Option Value) (base : Heap)
/-- a def does what F says -/
structure FnS (k : Nat) (f : Addr) (fd : FuncData) (ps : List Str) (F : FL) : Prop where
  run : ∀ (A : Around) (outer : List PySem.Env) (s : Shared) (H : Hp) (args : Args) (us : List Value) (vs : List V) (ds : List D) (mp : List Addr) (st : Mem) (Q : VK) (E : XK),
    Room k A → A.guards = some [] → Env0 P w K mg base A outer s H → BindsTo s fd args (ps.zip us) → Vals vs us → vs.length = ps.length → RelM ⟨K, mg⟩ mp H st → RvL ⟨K, mg⟩ mp H ds vs →
    Post ⟨K, mg⟩ mp H (F ds st) Q E → codeAny (model P w) A (.call (.ref f) args) (CR (L2.CX P w) outer P w H s Q E) s
/-- a def of the text, called x -/
def DefS (k : Nat) (x : Str) (ps : List Str) (F : FL) : Prop :=
  ∃ f fd, mg x = some (.ref f) ∧ PySem.W.keepIn K (.ref f) = true ∧ (∃ oc od osl, K.lookup f = some ⟨oc, od, .func fd, osl⟩) ∧ Binds K fd ps [] ∧ FnS P w K mg base k f fd ps F
end
/-- what the top has left of a def -/
def DefT (K : PySem.W.Frag) (mg : Str → Option Value) (x : Str) (st : Stmt) : Prop := ∃ f fd, mg x = some (.ref f) ∧ Fun K x x st f fd ∧ LamOk K x fd.code
def startE (n : Nat) (ds : List D) : Env := ds.map some ++ List.replicate (n - ds.length) none
def bodyF (m : MS) (n : Nat) (ds : List D) (st : Mem) : Res D := match m (startE n ds) st with
  | .nx _ st' => .ok .non st'
  | .rt d st' => .ok d st'
  | .exc e _ st' => .exc e st'
  | _ => .bad
section
variable {P : Program} {w : World} {K : PySem.W.Frag} {mg : Str → Option Value} {base : Heap}
theorem startE_rel {Γ : Gm} {mp : List Addr} {H : Hp} {N : List Str} {ds : List D} {vs : List V} (r : RvL Γ mp H ds vs) : RelE Γ mp H (startE N.length ds) (L2.start N vs) := by
  unfold startE L2.start
  rw [r.length]
  refine ⟨by simp [r.length], fun i d e => ?_⟩
  by_cases hi : i < ds.length
  · rw [List.getElem?_append_left (by simpa using hi)] at e
    rw [List.getElem?_map] at e
    cases q : ds[i]? with
    | none => rw [q] at e; cases e
    | some d' =>
      rw [q] at e
      cases e
      obtain ⟨v, h1, h2⟩ := r.get q
      exact ⟨v, by rw [List.getElem?_append_left (by rw [List.length_map, ← r.length]; exact hi), List.getElem?_map, h1]; rfl, h2⟩
  · rw [List.getElem?_append_right (by simpa using hi), List.getElem?_replicate] at e
    split at e <;> cases e
/-- THE RULE for a def: its body. wr: what is thrown away behind it -/
theorem def_mk {x : Str} {st : Stmt} {N ps : List Str} {k : Nat} {m : MS} (wr : Mem → Res D → Res D) (hw : ∀ Γ mp H st0 r (Q : VK) (W : XK), RelM Γ mp H st0 → Post Γ mp H (wr st0 r) Q W → Post Γ mp H r Q W)
    (T : DefT K mg x st) (B : TabAll K mg base) (S : FnScope N ps (defScope st))
    (hb : ∀ (kV doc pm : Value) (an : Option Addr) (cdv ct : Value) (us : List Value), us.length = ps.length → bindArgs (PySem.W.fnOf x x (defArgs st) (defBody st) (defScope st) .none kV doc pm an cdv ct) ⟨us, []⟩ = pure (ps.zip us))
    (body : ∀ (f : Addr) (cdv : Value) (A : Around) (outer : List PySem.Env) (s : Shared) (H : Hp) (E : XK), XC k (cxOf (L2.CX P w) P w K mg base N x (defScope st) f cdv A outer s H E) → XL (cxOf (L2.CX P w) P w K mg base N x (defScope st) f cdv A outer s H E) →
      SSs (cxOf (L2.CX P w) P w K mg base N x (defScope st) f cdv A outer s H E) (defBody st) m) : DefS P w K mg base (k + 1) x ps (fun ds st0 => wr st0 (bodyF m N.length ds st0)) := by
  obtain ⟨f, fd, hm, F, lo⟩ := T
  refine ⟨f, fd, hm, F.kp, (by obtain ⟨oc, od, kV, doc, pm, an, cdv, ct, osl, _, lk, _⟩ := F.ex; exact ⟨oc, od, osl, lk⟩), F.binds hb, ⟨fun A outer s H args us vs ds mp st0 Q E hr hg e0 bt r hl R rl Pq => ?_⟩⟩
  obtain ⟨oc, od, kV, doc, pm, an, cdv, ct, osl, rfl, lk, hcd⟩ := F.ex
  refine LamX.run_ofS (N := N) (ps := ps) lk hcd S hr e0 bt r hl fun hr' => ?_
  have c : XC k (cxOf (L2.CX P w) P w K mg base N x (defScope st) f cdv A outer s H E) := ⟨⟨hr', hg⟩, rfl, S.nd, passes_of rfl⟩
  have l : XL (cxOf (L2.CX P w) P w K mg base N x (defScope st) f cdv A outer s H E) := ⟨B, lo⟩
  refine ⟨_, (body f cdv A outer s H E c l).run (fun cls d _ H => E cls d H) (takes_of rfl rfl rfl rfl), mp, st0, startE N.length ds, R, startE_rel rl, ?_⟩
  have P1 := hw _ mp H st0 _ Q E R Pq
  unfold bodyF at P1
  cases em : m (startE N.length ds) st0 with
  | nx ρ' st' => rw [em] at P1; exact fun mp' H' σ' x1 R1 _ => P1 mp' H' .non x1 R1 (by simp [Rv])
  | rt d st' => rw [em] at P1; exact P1
  | exc e ρ' st' => rw [em] at P1; exact fun mp' H' cls dd σ' x1 R1 rx _ => P1 mp' H' cls dd x1 R1 rx
  | bk => rw [em] at P1; exact P1.elim
  | ct => rw [em] at P1; exact P1.elim
  | bad => rw [em] at P1; exact P1.elim
theorem wr_id : ∀ (Γ : Gm) (mp : List Addr) (H : Hp) (st0 : Mem) (r : Res D) (Q : VK) (W : XK), RelM Γ mp H st0 → Post Γ mp H r Q W → Post Γ mp H r Q W := fun _ _ _ _ _ _ _ _ h => h
theorem wr_drop : ∀ (Γ : Gm) (mp : List Addr) (H : Hp) (st0 : Mem) (r : Res D) (Q : VK) (W : XK), RelM Γ mp H st0 → Post Γ mp H (dropR st0 r) Q W → Post Γ mp H r Q W := fun _ _ _ _ _ _ _ R h => post_drop R h
/-- a list that is handed back: its cell thrown away, the list frozen -/
def dropF (st0 : Mem) (r : Res D) : Res D := match r with
  | .ok (.loc n) st => match st[n]? with
    | some (.lst xs) => if decide (st0.length ≤ n) && belowL st0.length xs && clean st0 st then .ok (.lst xs) (st.take st0.length) else .bad
    | _ => .bad
  | r => dropR st0 r
theorem wr_frz : ∀ (Γ : Gm) (mp : List Addr) (H : Hp) (st0 : Mem) (r : Res D) (Q : VK) (W : XK), RelM Γ mp H st0 → Post Γ mp H (dropF st0 r) Q W → Post Γ mp H r Q W := fun Γ mp H st0 r Q W R0 P => by
  unfold dropF at P
  split at P
  · rename_i n st
    split at P
    · rename_i xs hs
      split at P
      · rename_i hc
        simp only [Bool.and_eq_true, decide_eq_true_eq] at hc
        obtain ⟨⟨h1, h2⟩, h3⟩ := hc
        intro mp1 H1 v x R rv
        simp only [Rv] at rv
        obtain ⟨a, rfl, hm⟩ := rv
        obtain ⟨vs, q1, q2⟩ := R.cell n _ a hs hm
        obtain ⟨s, e⟩ := pre_eq x.pre
        subst e
        rw [← R0.len] at P h2 h1
        refine P mp H1 (.ref a) (x.less rfl) (R.less (clean_ok R0 h3)) ?_
        simp only [Rv]
        refine ⟨a, vs, rfl, ⟨q1, fun z => ?_⟩, RvL.less _ _ h2 q2⟩
        obtain ⟨i, hi, qi⟩ := List.mem_iff_getElem.mp z
        have a1 : (mp ++ s)[i]? = some a := by rw [List.getElem?_append_left hi]; simp [hi, qi]
        obtain ⟨b1, c1⟩ := List.getElem?_eq_some_iff.mp a1
        obtain ⟨b2, c2⟩ := List.getElem?_eq_some_iff.mp hm
        have : i = n := (List.getElem_inj R.nd).mp (c1.trans c2.symm)
        omega
      · exact P.elim
    · exact P.elim
  · exact post_drop R0 P
end

/-! ### calls -/
section
variable {X : Cx} {k : Nat} {f : Addr} {fd : FuncData} {ps : List Str} {F : FL} {x : Str} {p pos : Pos} {e : Expr} {es : List Expr} {ms : List ME} {W : WX}
theorem run_S {pins : List (Addr × Obj)} {σ : L2.St} {H : Hp} {s : Shared} {Q : VK} {us : List Value} {vs : List V} {ds : List D} {mp : List Addr} {st : Mem} (FN : FnS X.prog X.w X.K X.mg X.base k f fd ps F) (hr : XR k X) (hb : Binds X.K fd ps []) (tk : Takes X W)
    (I : L2.Inv X pins σ H s) (r : Vals vs us) (hl : vs.length = ps.length) (R : RelM (gm X) mp H st) (rl : RvL (gm X) mp H ds vs) (P : Post (gm X) mp H (F ds st) Q (fun c d H' => W c d σ H')) :
    wpAny (model X.prog X.w) X.A (call (.ref f) us) (EP X pins σ Q) X.xe s := by
  have b := hb s us I.kIn (by rw [List.append_nil, ← r.length]; exact hl)
  rw [List.append_nil] at b
  refine wpAny_call (codeAny_mono (FN.run X.A X.stack s H ⟨us, []⟩ us vs ds mp st Q (WE W σ) hr.room hr.gd I.env0 b r hl R rl P) fun r s' hq => ?_)
  cases r with
  | error e => exact passAt tk σ pins H s e s' I hq
  | ok fl =>
    cases fl with
    | ret u => exact I.after hq
    | next => exact False.elim hq
    | brk => exact False.elim hq
    | cont => exact False.elim hq
theorem se_call (FN : DefS X.prog X.w X.K X.mg X.base k x ps F) (hr : XR k X) (hg : Gl X x) (ha : SA X (e :: es) ms) (hl : ms.length = ps.length) (hdb : (x == ("__debug__" : Str)) = false := by decide)
    (he : starEach (e :: es) X.env = (false, eval e X.env) :: starEach es X.env := by rfl) (hpl : (backTo pos (starEach es X.env)).any (·.1) = false := by rfl) : SE X (.Call (.Name x p) (e :: es) [] pos) (mF F ms) := ⟨fun W tk => ⟨fun pins s σ H Q I h => by
  obtain ⟨f, fd, hm, hk, _, hb, FN⟩ := FN
  have h2 := tA_of h
  refine wpAny_Call_Name_kw (ld_glob I hg hm ?_ hdb)
  refine PySem.W.callWith_K (h₀ := X.base) I.ok.mod.kin hk (thn ((ha.run W tk).run pos pins s σ H _ I h2) fun us s1 ⟨vs, H1, I1, r, mp1, st1, ds, hd, R1, rl, P1⟩ => ⟨I1.kIn, ?_⟩) he hpl
  exact run_S FN hr hb tk I1 r (by rw [← rl.length, hd, hl]) R1 rl P1⟩⟩
theorem se_call0 (FN : DefS X.prog X.w X.K X.mg X.base k x [] F) (hr : XR k X) (hg : Gl X x) (hdb : (x == ("__debug__" : Str)) = false := by decide) : SE X (.Call (.Name x p) [] [] pos) (mF F []) := ⟨fun W tk => ⟨fun pins s σ H Q I h => by
  obtain ⟨f, fd, hm, hk, _, hb, FN⟩ := FN
  obtain ⟨mp, st, ρ, R, re, P⟩ := h
  refine wpAny_Call_Name_kw (ld_glob I hg hm ?_ hdb)
  exact PySem.W.callWith_K0 I.kIn hk (run_S (us := []) (vs := []) (ds := []) FN hr hb tk I .nil rfl R RvL.nil P)⟩⟩
/-- a call of what a name holds: one of some defs -/
def mCallV (i : Nat) (tab : List (Str × FL)) (ms : List ME) : ME := fun ρ st => match ρ[i]? with
  | some (some (.gl y)) => match tab.lookup y with
    | some F => (mArgs ms ρ st).bind F
    | none => .bad
  | _ => .bad
theorem se_callV {i : Nat} {tab : List (Str × FL)} {n : Nat} (hT : ∀ y F, tab.lookup y = some F → ∃ ps, ps.length = n ∧ DefS X.prog X.w X.K X.mg X.base k y ps F) (hr : XR k X) (hN : X.N[i]? = some x) (hv : Vis X.env.scope x) (ha : SA X (e :: es) ms) (hl : ms.length = n)
    (hdb : (x == ("__debug__" : Str)) = false := by decide) (hcd : (x == ("__classdict__" : Str)) = false := by decide)
    (he : starEach (e :: es) X.env = (false, eval e X.env) :: starEach es X.env := by rfl) (hpl : (backTo pos (starEach es X.env)).any (·.1) = false := by rfl) : SE X (.Call (.Name x p) (e :: es) [] pos) (mCallV i tab ms) := ⟨fun W tk => ⟨fun pins s σ H Q I h => by
  obtain ⟨mp, st, ρ, R, re, P⟩ := h
  unfold mCallV at P
  split at P
  · rename_i y ey
    split at P
    · rename_i F eF
      obtain ⟨ps, hps, f, fd, hm, hk, _, hb, FN⟩ := hT y F eF
      obtain ⟨v, hv1, hv2⟩ := re.2 i _ ey
      simp only [Rv] at hv2
      obtain ⟨a, rfl, ha1⟩ := hv2
      rw [hm] at ha1
      cases ha1
      have h2 := tA_of (ms := ms) (f := F) (Q := Q) (W := W) (σ := σ) (H := H) (Γ := gm X) ⟨mp, st, ρ, R, re, P⟩
      refine wpAny_Call_Name_kw (thn ((pe_var (pos := p) hN hv hdb hcd).run pins s σ H (fun v H1 => v = .ref f ∧ H1 = H) I ⟨.ref f, hv1, rfl, rfl⟩) fun u s1 ⟨v, H1, I1, r1, q1⟩ => ?_)
      obtain ⟨rfl, rfl⟩ := q1
      cases r1
      refine PySem.W.callWith_K (h₀ := X.base) I.ok.mod.kin hk (thn ((ha.run W tk).run pos pins s1 σ _ _ I1 h2) fun us s2 ⟨vs, H2, I2, r, mp1, st1, ds, hd, R1, rl, P1⟩ => ⟨I2.kIn, ?_⟩) he hpl
      exact run_S FN hr hb tk I2 r (by rw [← rl.length, hd, hl, hps]) R1 rl P1
    · exact P.elim
  · exact P.elim⟩⟩
end
end VI
set_option maxHeartbeats 4000000
namespace VI
open PySem PySem.Spec PyProof.Rows L2

/-! ### stores -/
/-- o[i] = v -/
def setD (o i v : D) (st : Mem) : Option Mem := match o with
  | .loc n => match st[n]? with
    | some (.lst xs) => match i with
      | .int k => (ixN xs.length k).map fun j => st.set n (.lst (xs.set j v))
      | _ => none
    | some (.dK kvs) => if kvs.length < LINE then (keyD i).map fun q => st.set n (.dK (putD kvs q v)) else none
    | some (.dT kvs) => match i with
      | .tup xs => if kvs.length < LINE then (keysD xs).map fun q => st.set n (.dT (putD kvs q v)) else none
      | _ => none
    | _ => none
  | _ => none
def rSetAll : TSet := fun o i v H Q => rSetL o i v H Q ∨ rSetD o i v H Q
theorem set_all {X : Cx} {k : Nat} (r : XR k X) : PSet X rSetAll := by
  intro pins s σ H o i v ov iv u Q I ro ri rv h
  rcases h with h | h
  · exact set_list pins s σ H o i v ov iv u Q I ro ri rv h
  · exact set_dict (by have := r.room.units; omega) pins s σ H o i v ov iv u Q I ro ri rv h
theorem line_lt {n : Nat} (h : n < LINE) : n < sizeLine := by
  have : sizeLine = 16777216 := sizeLine_eq
  have e : LINE = 16777216 := rfl
  omega
theorem set_of {Γ : Gm} {mp : List Addr} {H : Hp} {st st' : Mem} {o i v : D} {x y z : V} {Q : Hp → Prop} (R : RelM Γ mp H st) (ho : Rv Γ mp H o x) (hi : Rv Γ mp H i y) (hv : Rv Γ mp H v z) (e : setD o i v st = some st')
    (q : ∀ H', Ext mp H mp H' → RelM Γ mp H' st' → Q H') : rSetAll x y z H Q := by
  unfold setD at e
  split at e
  · rename_i n
    simp only [Rv] at ho
    obtain ⟨a, rfl, hm⟩ := ho
    have hmem : a ∈ mp := List.mem_of_getElem? hm
    split at e
    · rename_i xs hs
      obtain ⟨vs, h1, h2⟩ := R.cell n _ a hs hm
      split at e
      · rename_i k
        simp only [Rv] at hi; subst hi
        simp only [Option.map_eq_some_iff] at e
        obtain ⟨j, ej, rfl⟩ := e
        refine .inl ⟨a, vs, k, j, rfl, rfl, h1, by rw [← h2.length]; exact ej, q _ (ext_write hmem) (R.write hm h1 (show ∃ vs, _ = some (HO.lst vs) ∧ _ from ⟨_, upd_same, ?_⟩))⟩
        exact RvL.ext (ext_write hmem) _ _ (h2.set j hv)
      · cases e
    · rename_i kvs hs
      obtain ⟨vs, h1, z1, z2⟩ := R.cell n _ a hs hm
      split at e
      · rename_i hl
        simp only [Option.map_eq_some_iff] at e
        obtain ⟨kk, ek, rfl⟩ := e
        have ey := key_of hi ek
        subst ey
        have hl' : vs.length < sizeLine := by
          have := congrArg List.length z1
          simp only [List.length_map] at this
          rw [this]; exact line_lt hl
        obtain ⟨p1, p2⟩ := put_of (k := kk) z1 z2 hv
        exact .inr ⟨a, _, rfl, DPut.k h1 hl', q _ (ext_write hmem) (R.write hm h1 (show ∃ vs, _ = some (HO.dK vs) ∧ _ from ⟨_, upd_same, p1, RvL.ext (ext_write hmem) _ _ p2⟩))⟩
      · cases e
    · rename_i kvs hs
      obtain ⟨vs, h1, z1, z2⟩ := R.cell n _ a hs hm
      split at e
      · rename_i xs
        split at e
        · rename_i hl
          simp only [Option.map_eq_some_iff] at e
          obtain ⟨kk, ek, rfl⟩ := e
          simp only [Rv] at hi
          obtain ⟨b, us, rfl, hb, rb⟩ := hi
          have ey := keys_of rb ek
          subst ey
          have hl' : vs.length < sizeLine := by
            have := congrArg List.length z1
            simp only [List.length_map] at this
            rw [this]; exact line_lt hl
          obtain ⟨p1, p2⟩ := put_of (k := kk) z1 z2 hv
          exact .inr ⟨a, _, rfl, DPut.t h1 hb.1 hl', q _ (ext_write hmem) (R.write hm h1 (show ∃ vs, _ = some (HO.dT vs) ∧ _ from ⟨_, upd_same, p1, RvL.ext (ext_write hmem) _ _ p2⟩))⟩
        · cases e
      · cases e
    · cases e
  · cases e
def gSubD (mo mi : ME) : MG := fun d ρ st => match mo ρ st with
  | .ok o st1 => match mi ρ st1 with
    | .ok i st2 => match setD o i d st2 with
      | some st3 => .nx ρ st3
      | none => .bad
    | _ => .bad
  | _ => .bad
section
variable {X : Cx} {o i : Expr} {mo mi : ME} {pos : Pos} {k : Nat}
theorem sg_sub (r : XR k X) (ho : SE X o mo) (hi : SE X i mi)
    (ha : ∀ v, assign (.Subscript o i pos) X.env v = (do
      let ov ← holding [v] (eval o X.env)
      let iv ← holding [v, ov] (eval i X.env)
      standAt pos
      holding [v, ov, iv] (setItem ov iv v)
      release [v, ov, iv] []) := by intro _; rfl) : SG X (.Subscript o i pos) [] (gSubD mo mi) :=
  ⟨PG.imp (pg_sub (ho.run W0 takes0) (hi.run W0 takes0) (set_all r) ha) fun x σ H Q ⟨mp, st, ρ, d, R, re, rd, P⟩ => by
    refine ⟨mp, st, ρ, R, re, ?_⟩
    unfold gSubD at P
    cases e1 : mo ρ st with
    | ok od st1 =>
      simp only [e1] at P
      intro mp1 H1 xo x1 R1 r1
      refine ⟨mp1, st1, ρ, R1, re.ext x1, ?_⟩
      cases e2 : mi ρ st1 with
      | ok ii st2 =>
        simp only [e2] at P
        intro mp2 H2 xi x2 R2 r2
        cases e3 : setD od ii d st2 with
        | some st3 =>
          simp only [e3] at P
          refine set_of R2 (Rv.ext x2 _ _ r1) r2 (Rv.ext (x1.trans x2) _ _ rd) e3 fun H' x3 R3 => ?_
          exact P mp2 H' σ ((x1.trans x2).trans x3) R3 (re.ext ((x1.trans x2).trans x3)) rfl fun _ _ => rfl
        | none => simp only [e3] at P; exact P.elim
      | _ => simp only [e2] at P; exact P.elim
    | _ => simp only [e1] at P; exact P.elim⟩
end

/-! ### methods of built-in types -/
abbrev FM := D → List D → Mem → Res D
def SrvM (Γ : Gm) (f : FM) (r : V → List V → Hp → VK → Prop) : Prop := ∀ mp H st o ds x xs (Q : VK) (W : XK), RelM Γ mp H st → Rv Γ mp H o x → RvL Γ mp H ds xs → Post Γ mp H (f o ds st) Q W → r x xs H Q
/-- it is of the type T -/
def isT (T : String) (o : D) (st : Mem) : Bool := match o with
  | .str _ => T == "str"
  | .lst _ => T == "list"
  | .fz _ => T == "list"
  | .dct _ _ => T == "dict"
  | .loc n => match st[n]? with
    | some (.lst _) => T == "list"
    | some (.dK _) => T == "dict"
    | some (.dT _) => T == "dict"
    | _ => false
  | _ => false
theorem isT_ok {Γ : Gm} {mp : List Addr} {H : Hp} {st : Mem} {o : D} {x : V} {T : String} (R : RelM Γ mp H st) (h : Rv Γ mp H o x) (e : isT T o st = true) : tyV Γ.K T x H := by
  cases o with
  | str y => simp only [Rv] at h; subst h; exact eq_of_beq e
  | lst xs =>
    simp only [Rv] at h
    obtain ⟨a, vs, rfl, q, _⟩ := h
    exact .inl ⟨eq_of_beq e, vs, q.sq⟩
  | fz xs =>
    simp only [Rv] at h
    obtain ⟨a, vs, rfl, q, _⟩ := h
    exact .inl ⟨eq_of_beq e, vs, q.sq⟩
  | dct ks xs =>
    simp only [Rv] at h
    obtain ⟨a, vs, rfl, q, _⟩ := h
    exact .inr (.inr (.inl ⟨eq_of_beq e, .inl ⟨_, q⟩⟩))
  | loc n =>
    simp only [Rv] at h
    obtain ⟨a, rfl, hm⟩ := h
    simp only [isT] at e
    split at e
    · rename_i xs hs
      obtain ⟨vs, h1, h2⟩ := R.cell n _ a hs hm
      exact .inl ⟨eq_of_beq e, vs, .inl (.inl h1)⟩
    · rename_i xs hs
      obtain ⟨vs, h1, h2⟩ := R.cell n _ a hs hm
      exact .inr (.inr (.inl ⟨eq_of_beq e, .inl ⟨_, h1⟩⟩))
    · rename_i xs hs
      obtain ⟨vs, h1, h2⟩ := R.cell n _ a hs hm
      exact .inr (.inr (.inl ⟨eq_of_beq e, .inr ⟨_, h1⟩⟩))
    · cases e
  | _ => cases e
def mBM (T : String) (f : FM) (mo : ME) (ms : List ME) : ME := fun ρ st => (mo ρ st).bind fun o st1 => if isT T o st1 = true then (mArgs ms ρ st1).bind fun ds st2 => f o ds st2 else .bad
section
variable {X : Cx} {o e : Expr} {es : List Expr} {mo : ME} {ms : List ME} {name : Str} {apos cpos : Pos} {T id : String} {f : FM} {r : V → List V → Hp → VK → Prop}
theorem se_bm (pa : PlainAttrs T) (slot : Slot T name id) (hty : typeOf (.builtin id) = pure (.type "method_descriptor")) (hm : MtR X id r) (hf : SrvM (gm X) f r) (ho : SE X o mo) (ha : SA X (e :: es) ms)
    (hbase : attributeBase o name X.env (eval o X.env) = eval o X.env := by rfl)
    (hfew : ((backTo cpos (starEach (e :: es) X.env)).all (fun x => !x.1) && (backToKw cpos (keywordEach [] X.env)).all (fun x => x.1.isSome)
      && decide ((e :: es).length + ([] : List Keyword).length + (if ([] : List Keyword).isEmpty then 0 else 1) < 30)) = true := by rfl)
    (hline : (apos.endLine == cpos.line) = true := by rfl) (hs : starEach (e :: es) X.env = (false, eval e X.env) :: starEach es X.env := by rfl) (hplain : (backTo cpos (starEach es X.env)).any (·.1) = false := by rfl) :
    SE X (.Call (.Attribute o name apos) (e :: es) [] cpos) (mBM T f mo ms) := ⟨fun W tk => PE.imp (pe_bm pa slot hty hm (ho.run W tk) (ha.run W tk) hbase hfew hline hs hplain) fun σ H Q h => by
  obtain ⟨mp, st, ρ, R, E, P⟩ := tG_bind (Rel := Rv (gm X)) (m := mo) (k := fun ρ o st1 => if isT T o st1 = true then (mArgs ms ρ st1).bind fun ds st2 => f o ds st2 else .bad) h
  refine ⟨mp, st, ρ, R, E, P.mono fun x H1 ⟨mp1, st1, ρ1, od, R1, E1, r1, P1⟩ => ?_⟩
  split at P1
  · rename_i ht
    refine ⟨isT_ok R1 r1 ht, ?_⟩
    obtain ⟨mp2, st2, ρ2, R2, E2, P2⟩ := tG_bindK (Rel := RvL (gm X)) (m := mArgs ms) R1 E1 P1
    exact ⟨mp2, st2, ρ2, R2, E2, P2.mono fun xs H2 ⟨mp3, st3, ds, _, x3, R3, E3, r3, P3⟩ => hf mp3 H2 st3 od ds x xs Q _ R3 (Rv.ext x3 _ _ r1) r3 P3⟩
  · exact P1.elim⟩
theorem se_bm0 (pa : PlainAttrs T) (slot : Slot T name id) (hty : typeOf (.builtin id) = pure (.type "method_descriptor")) (hm : MtR X id r) (hf : SrvM (gm X) f r) (ho : SE X o mo)
    (hbase : attributeBase o name X.env (eval o X.env) = eval o X.env := by rfl) (hline : (apos.endLine == cpos.line) = true := by rfl) :
    SE X (.Call (.Attribute o name apos) [] [] cpos) (mBM T f mo []) := ⟨fun W tk => PE.imp (pe_bm0 pa slot hty hm (ho.run W tk) hbase hline) fun σ H Q h => by
  obtain ⟨mp, st, ρ, R, E, P⟩ := tG_bind (Rel := Rv (gm X)) (m := mo) (k := fun ρ o st1 => if isT T o st1 = true then (mArgs [] ρ st1).bind fun ds st2 => f o ds st2 else .bad) h
  refine ⟨mp, st, ρ, R, E, P.mono fun x H1 ⟨mp1, st1, ρ1, od, R1, E1, r1, P1⟩ => ?_⟩
  split at P1
  · rename_i ht
    exact ⟨isT_ok R1 r1 ht, hf mp1 H1 st1 od [] x [] Q _ R1 r1 RvL.nil P1⟩
  · exact P1.elim⟩
end
def appendD : FM := fun o ds st => match o, ds with
  | .loc n, [d] => match st[n]? with
    | some (.lst xs) => if xs.length < LINE then .ok .non (st.set n (.lst (xs ++ [d]))) else .bad
    | _ => .bad
  | _, _ => .bad
theorem srv_append {Γ : Gm} : SrvM Γ appendD rAppend := by
  intro mp H st o ds x xs Q W R ho rl P
  unfold appendD at P
  split at P
  · rename_i n d
    simp only [Rv] at ho
    obtain ⟨a, rfl, hm⟩ := ho
    obtain ⟨v, rfl, rv⟩ := rl.one
    have hmem : a ∈ mp := List.mem_of_getElem? hm
    split at P
    · rename_i ys hs
      obtain ⟨vs, h1, h2⟩ := R.cell n _ a hs hm
      split at P
      · rename_i hl
        refine ⟨a, vs, v, rfl, rfl, h1, by rw [← h2.length]; exact line_lt hl, P mp _ .non (ext_write hmem) (R.write hm h1 (show ∃ vs, _ = some (HO.lst vs) ∧ _ from ⟨_, upd_same, ?_⟩)) (by simp [Rv])⟩
        exact RvL.ext (ext_write hmem) _ _ (h2.append (RvL.cons rv RvL.nil))
      · exact P.elim
    · exact P.elim
  · exact P.elim
/-- xs.pop(i) -/
def popAtD : FM := fun o ds st => match o, ds with
  | .loc n, [.int i] => match st[n]? with
    | some (.lst xs) => if big62 i = true then (match seqIndex? i xs.length with
      | some k => match xs[k]? with
        | some y => .ok y (st.set n (.lst (xs.eraseIdx k)))
        | none => .bad
      | none => .bad) else .bad
    | _ => .bad
  | _, _ => .bad
theorem RvL.erase {Γ : Gm} {mp : List Addr} {H : Hp} : ∀ {ds : List D} {vs : List V} (i : Nat), RvL Γ mp H ds vs → RvL Γ mp H (ds.eraseIdx i) (vs.eraseIdx i)
  | [], vs, i, h => by simp only [RvL] at h; subst h; simp [RvL]
  | d :: ds, vs, 0, h => by
    simp only [RvL] at h
    obtain ⟨v, r, rfl, h2, h3⟩ := h
    exact h3
  | d :: ds, vs, i + 1, h => by
    simp only [RvL] at h
    obtain ⟨v, r, rfl, h2, h3⟩ := h
    exact RvL.cons h2 (RvL.erase i h3)
theorem srv_popAt {Γ : Gm} : SrvM Γ popAtD rPopAt := by
  intro mp H st o ds x xs Q W R ho rl P
  unfold popAtD at P
  split at P
  · rename_i n i
    simp only [Rv] at ho
    obtain ⟨a, rfl, hm⟩ := ho
    obtain ⟨v, rfl, rv⟩ := rl.one
    simp only [Rv] at rv; subst rv
    have hmem : a ∈ mp := List.mem_of_getElem? hm
    split at P
    · rename_i ys hs
      obtain ⟨vs, h1, h2⟩ := R.cell n _ a hs hm
      split at P
      · rename_i hb
        obtain ⟨b1, b2⟩ := big62_ok hb
        split at P
        · rename_i k hk
          split at P
          · rename_i y hy
            obtain ⟨v, hv1, hv2⟩ := h2.get hy
            refine ⟨a, vs, i, k, v, rfl, rfl, h1, by omega, by omega, by rw [← h2.length]; exact hk, hv1, P mp _ v (ext_write hmem) (R.write hm h1 (show ∃ vs, _ = some (HO.lst vs) ∧ _ from ⟨_, upd_same, ?_⟩)) (Rv.ext (ext_write hmem) _ _ hv2)⟩
            exact RvL.ext (ext_write hmem) _ _ (h2.erase k)
          · exact P.elim
        · exact P.elim
      · exact P.elim
    · exact P.elim
  · exact P.elim

/-! ### {k: v, ..} -/
def mPairs : List (ME × ME) → Env → Mem → Res (List (D × D))
  | [], _, st => .ok [] st
  | p :: r, ρ, st => (p.1 ρ st).bind fun x st1 => (p.2 ρ st1).bind fun y st2 => (mPairs r ρ st2).bind fun ps st3 => .ok ((x, y) :: ps) st3
def keyPs : List (D × D) → Option (List (Key × D))
  | [] => some []
  | p :: r => match keyD p.1, keyPs r with
    | some k, some ks => some ((k, p.2) :: ks)
    | _, _ => none
def mergeD (ps : List (Key × D)) : List (Key × D) := ps.foldl (fun acc kv => putD acc kv.1 kv.2) []
def mDisp (kms : List (ME × ME)) : ME := fun ρ st => (mPairs kms ρ (st ++ [.dK []])).bind fun ps st1 => match st1[st.length]? with
  | some (.dK []) => match keyPs ps with
    | some ks => if ks.length ≤ 15 then .ok (.loc st.length) (st1.set st.length (.dK (mergeD ks))) else .bad
    | none => .bad
  | _ => .bad
structure SPPs (X : Cx) (pos : Pos) (keys : List (Option Expr)) (values : List Expr) (kms : List (ME × ME)) : Prop where
  run : ∀ W, Takes X W → PPs X pos keys values (kms.map fun p => (tE (gm X) W p.1, tE (gm X) W p.2))
theorem spps_nil {X : Cx} {pos : Pos} : SPPs X pos [] [] [] := ⟨fun _ _ => pps_nil⟩
theorem spps_cons {X : Cx} {pos : Pos} {k v : Expr} {ks : List (Option Expr)} {vs : List Expr} {mk mv : ME} {kms : List (ME × ME)} (hk : SE X k mk) (hv : SE X v mv) (hr : SPPs X pos ks vs kms) : SPPs X pos (some k :: ks) (v :: vs) ((mk, mv) :: kms) :=
  ⟨fun W tk => pps_cons (hk.run W tk) (hv.run W tk) (hr.run W tk)⟩
def RvP (Γ : Gm) (mp : List Addr) (H : Hp) (ps : List (D × D)) (vs : List (V × V)) : Prop := RvL Γ mp H (ps.map (·.1)) (vs.map (·.1)) ∧ RvL Γ mp H (ps.map (·.2)) (vs.map (·.2))
theorem tPairs_of {Γ : Gm} {W : WX} {σ : L2.St} : ∀ {kms : List (ME × ME)} {H : Hp} {Q : List (V × V) → Hp → Prop} {mp : List Addr} {st : Mem} {ρ : Env}, RelM Γ mp H st → RelE Γ mp H ρ σ →
    (∀ ps st1, mPairs kms ρ st = .ok ps st1 → ∀ mp1 H1 vs, Ext mp H mp1 H1 → RelM Γ mp1 H1 st1 → RvP Γ mp1 H1 ps vs → Q vs H1) →
    (∀ e st1, mPairs kms ρ st = .exc e st1 → ∀ mp' H' cls dd, Ext mp H mp' H' → RelM Γ mp' H' st1 → RelX Γ mp' H' e cls dd → W cls dd σ H') → mPairs kms ρ st ≠ .bad →
    tPairs (kms.map fun p => (tE Γ W p.1, tE Γ W p.2)) σ H Q
  | [], H, Q, mp, st, ρ, R, E, P, X, B => P [] st rfl mp H [] (Ext.refl _ _) R ⟨RvL.nil, RvL.nil⟩
  | p :: kms, H, Q, mp, st, ρ, R, E, P, X, B => by
    simp only [mPairs] at P X B
    refine ⟨mp, st, ρ, R, E, ?_⟩
    cases e1 : p.1 ρ st with
    | bad => rw [e1] at B; exact (B rfl).elim
    | exc e st1 => rw [e1] at X; exact fun mp' H' cls dd x1 R1 rx => X e st1 rfl mp' H' cls dd x1 R1 rx
    | ok k st1 =>
      intro mp1 H1 v x1 R1 r1
      rw [e1] at P X B
      simp only [Res.ok_bind] at P X B
      refine ⟨mp1, st1, ρ, R1, E.ext x1, ?_⟩
      cases e2 : p.2 ρ st1 with
      | bad => rw [e2] at B; exact (B rfl).elim
      | exc e st2 => rw [e2] at X; exact fun mp' H' cls dd x2 R2 rx => X e st2 rfl mp' H' cls dd (x1.trans x2) R2 rx
      | ok y st2 =>
        intro mp2 H2 u x2 R2 r2
        rw [e2] at P X B
        simp only [Res.ok_bind] at P X B
        refine tPairs_of R2 ((E.ext x1).ext x2) (fun ps st3 e3 mp3 H3 vs x3 R3 r3 => ?_) (fun e st3 e3 mp' H' cls dd x3 R3 rx => ?_) (fun z => ?_)
        · rw [e3] at P
          refine P _ _ rfl mp3 H3 _ ((x1.trans x2).trans x3) R3 ⟨?_, ?_⟩
          · exact RvL.cons (Rv.ext (x2.trans x3) _ _ r1) r3.1
          · exact RvL.cons (Rv.ext x3 _ _ r2) r3.2
        · rw [e3] at X
          exact X e st3 rfl mp' H' cls dd ((x1.trans x2).trans x3) R3 rx
        · rw [z] at B; exact B rfl
theorem keyPs_of {Γ : Gm} {mp : List Addr} {H : Hp} : ∀ {ps : List (D × D)} {vs : List (V × V)} {ks : List (Key × D)}, RvP Γ mp H ps vs → keyPs ps = some ks →
    ∃ kvs : List (Key × V), vs = kvs.map (fun kv => (kV kv.1, kv.2)) ∧ kvs.map (·.1) = ks.map (·.1) ∧ RvL Γ mp H (ks.map (·.2)) (kvs.map (·.2))
  | [], vs, ks, h, e => by
    simp only [keyPs, Option.some.injEq] at e; subst e
    have := h.1.length
    have : vs = [] := by cases vs <;> simp_all
    subst this
    exact ⟨[], rfl, rfl, RvL.nil⟩
  | p :: ps, vs, ks, h, e => by
    simp only [keyPs] at e
    split at e
    · rename_i k ks' e1 e2
      cases e
      cases vs with
      | nil => have := h.1.length; simp at this
      | cons q vs =>
        obtain ⟨h1, h2⟩ := h
        simp only [List.map_cons, RvL, List.cons.injEq] at h1 h2
        obtain ⟨v, r, ⟨rfl, rfl⟩, a1, a2⟩ := h1
        obtain ⟨u, r', ⟨rfl, rfl⟩, b1, b2⟩ := h2
        obtain ⟨kvs, c1, c2, c3⟩ := keyPs_of ⟨a2, b2⟩ e2
        have ek := key_of a1 e1
        refine ⟨(k, q.2) :: kvs, ?_, by simp [c2], RvL.cons b1 c3⟩
        rw [List.map_cons, ← c1]
        congr 1
        exact Prod.ext ek rfl
    · cases e
theorem merge_of {Γ : Gm} {mp : List Addr} {H : Hp} : ∀ {ks : List (Key × D)} {kvs : List (Key × V)} {acc : List (Key × D)} {bcc : List (Key × V)}, kvs.map (·.1) = ks.map (·.1) → RvL Γ mp H (ks.map (·.2)) (kvs.map (·.2)) →
    bcc.map (·.1) = acc.map (·.1) → RvL Γ mp H (acc.map (·.2)) (bcc.map (·.2)) →
    (mergeK bcc kvs).map (·.1) = (ks.foldl (fun acc kv => putD acc kv.1 kv.2) acc).map (·.1) ∧ RvL Γ mp H ((ks.foldl (fun acc kv => putD acc kv.1 kv.2) acc).map (·.2)) ((mergeK bcc kvs).map (·.2))
  | [], kvs, acc, bcc, e, r, e', r' => by
    have : kvs = [] := by cases kvs <;> simp_all
    subst this
    exact ⟨e', r'⟩
  | p :: ks, kvs, acc, bcc, e, r, e', r' => by
    cases kvs with
    | nil => simp at e
    | cons q kvs =>
      simp only [List.map_cons, List.cons.injEq] at e
      simp only [List.map_cons, RvL] at r
      obtain ⟨v, r1, e2, a1, a2⟩ := r
      simp only [List.cons.injEq] at e2
      obtain ⟨rfl, rfl⟩ := e2
      obtain ⟨p1, p2⟩ := put_of (k := p.1) e' r' a1
      have := merge_of (ks := ks) (kvs := kvs) (acc := putD acc p.1 p.2) (bcc := putK bcc p.1 q.2) e.2 a2 p1 p2
      rw [← e.1] at this
      rw [List.foldl_cons]
      unfold mergeK at this ⊢
      rw [List.foldl_cons, ← e.1]
      exact this
theorem keyPs_len : ∀ {ps : List (D × D)} {ks : List (Key × D)}, keyPs ps = some ks → ks.length = ps.length
  | [], ks, e => by simp only [keyPs, Option.some.injEq] at e; subst e; rfl
  | p :: ps, ks, e => by
    simp only [keyPs] at e
    split at e
    · rename_i k ks' e1 e2
      cases e
      simp [keyPs_len e2]
    · cases e
theorem se_disp {X : Cx} {pos : Pos} {keys : List (Option Expr)} {values : List Expr} {kms : List (ME × ME)} (h : SPPs X pos keys values kms) (hall : keys.all (·.isSome) = true := by rfl) (hl : keys.length = values.length := by rfl) (h0 : keys ≠ [] := by exact fun z => nomatch z)
    (h15 : keys.length ≤ 15 := by decide) : SE X (.Dict keys values pos) (mDisp kms) := ⟨fun W tk => PE.imp (pe_disp (h.run W tk) hall hl h0 h15) fun σ H Q ⟨mp, st, ρ, R, E, P⟩ => by
  intro p np
  unfold mDisp at P
  have hp : (mp ++ [p])[st.length]? = some p := by rw [← R.len]; simp
  have RA : RelM (gm X) (mp ++ [p]) (upd H p (.dK [])) (st ++ [.dK []]) := R.push np (show ∃ vs, _ = some (HO.dK vs) ∧ _ from ⟨[], upd_same, rfl, RvL.nil⟩)
  have xA := ext_cell (mp := mp) (o := .dK []) np
  refine tPairs_of RA (E.ext xA) (fun ps st1 e1 mp1 H1 vs x1 R1 r1 => ?_) (fun e st1 e1 mp' H' cls dd x1 R1 rx => ?_) (fun z => ?_)
  · rw [e1] at P
    simp only [Res.ok_bind] at P
    split at P
    · rename_i hc
      have hp1 := x1.pre _ _ hp
      obtain ⟨us, q1, q2, q3⟩ := R1.cell st.length _ p hc hp1
      have : us = [] := by cases us <;> simp_all
      subst this
      split at P
      · rename_i ks ek
        split at P
        · rename_i h15'
          obtain ⟨kvs, c1, c2, c3⟩ := keyPs_of r1 ek
          have hmem : p ∈ mp1 := List.mem_of_getElem? hp1
          obtain ⟨m1, m2⟩ := merge_of (acc := []) (bcc := []) c2 c3 rfl RvL.nil
          refine ⟨q1, kvs, c1, ?_, P mp1 _ (.ref p) ((xA.trans x1).trans (ext_write hmem)) (R1.write hp1 q1 (show ∃ vs, _ = some (HO.dK vs) ∧ _ from ⟨_, upd_same, m1, RvL.ext (ext_write hmem) _ _ m2⟩)) (by simp only [Rv]; exact ⟨p, rfl, hp1⟩)⟩
          have := congrArg List.length c2
          simp only [List.length_map] at this
          omega
        · exact P.elim
      · exact P.elim
    · exact P.elim
  · rw [e1] at P
    exact P mp' H' cls dd (xA.trans x1) R1 rx
  · rw [z] at P; exact P.elim⟩
/-- {} with int and text keys | with tuple keys -/
def mNewK : ME := fun _ st => .ok (.loc st.length) (st ++ [.dK []])
def mNewT : ME := fun _ st => .ok (.loc st.length) (st ++ [.dT []])
theorem se_newK {X : Cx} {pos : Pos} : SE X (.Dict [] [] pos) mNewK := se_of pe_dnewK fun W σ H Q ⟨mp, st, ρ, R, E, P⟩ p np =>
  P _ _ (.ref p) (ext_cell np) (R.push np (show ∃ vs, _ = some (HO.dK vs) ∧ _ from ⟨[], upd_same, rfl, RvL.nil⟩)) (by simp only [Rv]; exact ⟨p, rfl, by rw [← R.len]; simp⟩)
theorem se_newT {X : Cx} {pos : Pos} : SE X (.Dict [] [] pos) mNewT := se_of pe_dnewT fun W σ H Q ⟨mp, st, ρ, R, E, P⟩ p np =>
  P _ _ (.ref p) (ext_cell np) (R.push np (show ∃ vs, _ = some (HO.dT vs) ∧ _ from ⟨[], upd_same, rfl, RvL.nil⟩)) (by simp only [Rv]; exact ⟨p, rfl, by rw [← R.len]; simp⟩)
end VI
set_option maxHeartbeats 4000000
namespace VI
open PySem PySem.Spec PyProof.Rows L2

/-! ### repr -/
def rRepr (K : PySem.W.Frag) : List V → Hp → VK → Prop := fun xs H Q => ∃ x p, xs = [x] ∧ Dp K H x p ∧ p.showable = true ∧ p.hasDict = false ∧ p.depth ≤ 20 ∧ p.shown.length ≤ sizeLine ∧ Q (.str p.shown) H
theorem call_repr {X : Cx} {k : Nat} (r : XR k X) : CallR X (.builtin "repr") (rRepr X.K) := by
  intro pins s σ H xs us Q I rs h
  obtain ⟨x, p, rfl, dp, hs, hd, hdp, hz, q⟩ := h
  obtain ⟨u, rfl, ru⟩ := Vals.one rs
  have here : ∀ tk t, EP X pins σ Q (.str p.shown tk) { s with toks := t } := fun tk t => ⟨.str p.shown, H, I.tok t, ⟨_, rfl⟩, q⟩
  have big : X.A.guards = some [] → X.A.units + (p.depth + 1) < cLine → ∀ a, u = .ref a → wpAny (model X.prog X.w) X.A (call (.builtin "repr") [.ref a]) (EP X pins σ Q) X.xe s := fun hg hu a ea => by
    subst ea
    obtain ⟨as, rd⟩ := Dp.reads I p x _ dp ru
    exact repr_of_reads' rd hs (PyData.noDict_hsm hd) hg hu (fun _ _ e => e) (fun h' v tk hk => ⟨.str p.shown, H, I.kept (t' := tk) hk, ⟨_, rfl⟩, q⟩) hz
  have hu : X.A.units + (p.depth + 1) < cLine := by have := r.room.un; omega
  cases dp with
  | non => cases ru; exact PySem.P.repr_of_none (by have := here s.toks (s.toks + 1); simp only [PyData.shown] at this; exact this)
  | bl b => cases ru; exact PySem.P.repr_of_bool (by have := here s.toks (s.toks + 1); simp only [PyData.shown] at this; exact this)
  | int i =>
    obtain ⟨t, rfl⟩ := ru
    exact PySem.P.repr_of_int (by simpa [PyData.showable] using hs) (by have := here s.toks (s.toks + 1); simp only [PyData.shown] at this; exact this)
  | str y =>
    obtain ⟨t, rfl⟩ := ru
    exact PySem.P.repr_of_str (by have := here s.toks (s.toks + 1); simp only [PyData.shown] at this; exact this) (by simpa only [PyData.shown] using hz)
  | lst q1 q2 => cases ru; exact big r.gd hu _ rfl
  | tup q1 q2 => cases ru; exact big r.gd hu _ rfl
def reprOk (p : PyData) : Bool := p.showable && decide (p.shown.length ≤ LINE)
/-- what repr tells -/
def reprD : F1 := fun d st => if okD 20 (topD d st) = true then (match toPy (topD d st) with
  | some p => if reprOk p = true then .ok (.str p.shown) st else .bad
  | none => .bad) else .bad
theorem srv_repr {Γ : Gm} : SrvL Γ (f1 reprD) (rRepr Γ.K) := srvL1 (by
  intro mp H st d x Q W R h P
  unfold reprD at P
  split at P
  · rename_i hk
    obtain ⟨p, e1, c1, l1⟩ := okD_py _ _ hk
    rw [e1] at P
    simp only at P
    split at P
    · rename_i hz
      simp only [reprOk, Bool.and_eq_true, decide_eq_true_eq] at hz
      exact ⟨x, p, rfl, top_dp R h e1, hz.1, PyData.hasDict_of_canLay p c1, l1, line_le hz.2, post_here P R (by simp [Rv])⟩
    · exact P.elim
  · exact P.elim)

/-! ### exceptions as values -/
/-- what the text says of an exception class that is asked -/
structure XoF (K : PySem.W.Frag) (C : Addr) : Prop where
  hcl : (PySem.W.clsIn K C).isSome = true
  ga : PySem.W.findIn K (.ref C) "__getattribute__" = some (some (.builtin "BaseException.__getattribute__"))
  gg : PySem.W.findIn K (.ref C) "__getattr__" = some none
  exC : PySem.W.subIn K (.ref C) (.type "BaseException") = some true
  hdC : PySem.W.hasDictIn K C = true
  cl : PySem.W.findIn K (.ref C) "__class__" = some (some (.builtin "object.__class__"))
  hn : PySem.W.specialIn K (.builtin "object.__class__") "__get__" = some (some (.builtin "getset_descriptor.__get__"))
  ht : PySem.W.takesIn K (.builtin "object.__class__") = some true
  hm : PySem.W.mroIn K C (.type "object") = some true
def dB {α : Type} [DecidableEq α] (a b : α) : Bool := decide (a = b)
theorem dB_ok {α : Type} [DecidableEq α] {a b : α} (h : dB a b = true) : a = b := of_decide_eq_true h
def xoFB (K : PySem.W.Frag) (C : Addr) : Bool := (PySem.W.clsIn K C).isSome && (dB (PySem.W.findIn K (.ref C) "__getattribute__") (some (some (.builtin "BaseException.__getattribute__"))) && (dB (PySem.W.findIn K (.ref C) "__getattr__") (some none) &&
  (dB (PySem.W.subIn K (.ref C) (.type "BaseException")) (some true) && (PySem.W.hasDictIn K C && (dB (PySem.W.findIn K (.ref C) "__class__") (some (some (.builtin "object.__class__"))) &&
  (dB (PySem.W.specialIn K (.builtin "object.__class__") "__get__") (some (some (.builtin "getset_descriptor.__get__"))) && (dB (PySem.W.takesIn K (.builtin "object.__class__")) (some true) && dB (PySem.W.mroIn K C (.type "object")) (some true))))))))
theorem xoFB_ok {K : PySem.W.Frag} {C : Addr} (h : xoFB K C = true) : XoF K C := by
  unfold xoFB at h
  simp only [Bool.and_eq_true] at h
  obtain ⟨h1, h2, h3, h4, h5, h6, h7, h8, h9⟩ := h
  exact ⟨h1, dB_ok h2, dB_ok h3, dB_ok h4, h5, dB_ok h6, dB_ok h7, dB_ok h8, dB_ok h9⟩
/-- an exception object stands at a -/
def IsXo (H : Hp) (C a : Addr) : Prop := H a = some (ExO (.ref C) a) ∨ ∃ d, H a = some (exo a C d) ∧ ∀ dx, d = some dx → ∃ fs, H dx = some (exd dx fs)
theorem xo_inst {X : Cx} {pins : List (Addr × Obj)} {σ : L2.St} {H : Hp} {s : Shared} {C a : Addr} (I : L2.Inv X pins σ H s) (h : IsXo H C a) : ∃ ox od, PySem.W.InstAt s.heap a ox C od := by
  rcases h with h | ⟨d, h, hd⟩
  · have x := I.hok a _ h
    obtain ⟨⟨oe, vs, e, z, dd, _⟩, _⟩ := x
    obtain ⟨z1, z2⟩ := z
    refine ⟨oe, none, e, z1, ?_, ?_⟩
    · unfold PySem.W.notCls; rw [dd] <;> rfl
    · rw [z2]; trivial
  · obtain ⟨t1, e⟩ := exo_at I.hok h
    cases d with
    | none => exact ⟨_, none, e, rfl, rfl, trivial⟩
    | some dx =>
      obtain ⟨fs, hf⟩ := hd dx rfl
      obtain ⟨mA, ⟨od, es, ep, ho, _⟩, _⟩ := exd_at I.hok hf
      exact ⟨_, some od, e, rfl, rfl, ho⟩
def rIsXo (K : PySem.W.Frag) : List V → Hp → VK → Prop := fun xs H Q => ∃ (a C : Addr) (c : V) (u : Value) (b : Bool), xs = [.ref a, c] ∧ ClsV c u ∧ IsXo H C a ∧ XoF K C ∧ PySem.W.kitOne K (.ref C) u = some b ∧ Q (.bl b) H
theorem call_isXo {X : Cx} : CallR X (.builtin "isinstance") (rIsXo X.K) := by
  intro pins s σ H xs us Q I r h
  obtain ⟨a, C, c, u, b, rfl, k, hi, F, e, q⟩ := h
  obtain ⟨u1, u2, rfl, r1, r2⟩ := vals2 r
  have e2 := k.eq r2
  subst e2
  cases (show u1 = Value.ref a from r1)
  obtain ⟨ox, od, J⟩ := xo_inst I hi
  exact PySem.W.kia_one (PySem.W.kitx_exc (ox := ox) (od := od) F.hcl F.ga F.gg F.exC F.cl F.hn F.ht F.hm) I.kIn J e (fun z => nomatch z) fun tk => ⟨.bl b, H, I.tok tk, rfl, q⟩
/-- isinstance(e, c) for exceptions of the classes in tab -/
def isXoD (tab : List (Str × Bool)) : F1 := fun d st => match d with
  | .loc n => match st[n]? with
    | some (.xo c _) => match tab.lookup c with
      | some b => .ok (.bl b) st
      | none => .bad
    | _ => .bad
  | _ => .bad
theorem xo_is {Γ : Gm} {mp : List Addr} {H : Hp} {a : Addr} {c : Str} {fs : List (Str × D)} (h : RelC Γ mp H a (.xo c fs)) : ∃ C, Γ.mg c = some (.ref C) ∧ IsXo H C a := by
  obtain ⟨C, m, ⟨_, h⟩ | ⟨d, vs, h, hd, _⟩⟩ := h
  · exact ⟨C, m, .inl h⟩
  · exact ⟨C, m, .inr ⟨some d, h, fun dx e => by cases e; exact ⟨vs, hd⟩⟩⟩
/-- the class x and the answers for the classes in tab -/
def XoTab (Γ : Gm) (x : Str) (tab : List (Str × Bool)) : Prop := ∃ D, Γ.mg x = some (.ref D) ∧ ∀ c b, tab.lookup c = some b → ∃ C, Γ.mg c = some (.ref C) ∧ XoF Γ.K C ∧ PySem.W.kitOne Γ.K (.ref C) (.ref D) = some b
/-- .. the built-in class T -/
def XoTabT (Γ : Gm) (T : String) (tab : List (Str × Bool)) : Prop := ∀ c b, tab.lookup c = some b → ∃ C, Γ.mg c = some (.ref C) ∧ XoF Γ.K C ∧ PySem.W.kitOne Γ.K (.ref C) (.type T) = some b
section
variable {X : Cx} {e : Expr} {me : ME} {x : Str} {p p2 pos : Pos} {tab : List (Str × Bool)} {T : String}
theorem tIsXo_of {Γ : Gm} {W : WX} {σ : L2.St} {H : Hp} {Q : VK} {c : V} {u : Value} (k : ClsV c u) (hT : ∀ x b, tab.lookup x = some b → ∃ C, Γ.mg x = some (.ref C) ∧ XoF Γ.K C ∧ PySem.W.kitOne Γ.K (.ref C) u = some b) (h : tE Γ W (m1 (isXoD tab) me) σ H Q) :
    tE Γ W me σ H (fun x H1 => rIsXo Γ.K [x, c] H1 Q) := by
  obtain ⟨mp, st, ρ, R, E, P⟩ := tG_bind (Rel := Rv Γ) (m := me) (k := fun _ d st1 => isXoD tab d st1) h
  refine ⟨mp, st, ρ, R, E, P.mono fun v H1 ⟨mp1, st1, ρ1, d, R1, E1, r1, P1⟩ => ?_⟩
  unfold isXoD at P1
  split at P1
  · rename_i n
    simp only [Rv] at r1
    obtain ⟨a, rfl, ha⟩ := r1
    split at P1
    · rename_i y fs hc
      split at P1
      · rename_i b hb
        obtain ⟨C, hC, F, ki⟩ := hT y b hb
        obtain ⟨C', hC', hI⟩ := xo_is (R1.cell n _ a hc ha)
        have : C' = C := by rw [hC] at hC'; cases hC'; rfl
        subst this
        exact ⟨a, C', c, u, b, rfl, k, hI, F, ki, post_here P1 R1 (by simp [Rv])⟩
      · exact P1.elim
    · exact P1.elim
  · exact P1.elim
theorem se_isXo (T : XoTab (gm X) x tab) (hg : Gl X "isinstance") (hm : X.mg "isinstance" = none) (he : SE X e me) (hgx : Gl X x) (hdb : (x == ("__debug__" : Str)) = false := by decide)
    (hs : starEach [e, .Name x p2] X.env = (false, eval e X.env) :: starEach [.Name x p2] X.env := by rfl) (hs2 : starEach [.Name x p2] X.env = (false, eval (.Name x p2) X.env) :: starEach [] X.env := by rfl)
    (hpl : (backTo pos (starEach [.Name x p2] X.env)).any (·.1) = false := by rfl) : SE X (.Call (.Name "isinstance" p) [e, .Name x p2] [] pos) (m1 (isXoD tab) me) := by
  obtain ⟨D, hD, hT⟩ := T
  exact ⟨fun W tk => PE.imp (pe_callB call_isXo hg hm boot_isinstance (pa_cons (he.run W tk) (pa_cons (pe_glob (v := .ref D) hgx hD rfl hdb) pa_nil hs2) hs) (by decide) (by decide) hs hpl) fun σ H Q q => tIsXo_of (.own D) hT q⟩
theorem se_isXoT (hT : XoTabT (gm X) T tab) (hv : bootBuiltins x = some (.type T)) (hg : Gl X "isinstance") (hm : X.mg "isinstance" = none) (he : SE X e me) (hgx : Gl X x) (hmx : X.mg x = none) (hn : x ≠ "__name__" := by decide) (hdb : (x == ("__debug__" : Str)) = false := by decide)
    (hs : starEach [e, .Name x p2] X.env = (false, eval e X.env) :: starEach [.Name x p2] X.env := by rfl) (hs2 : starEach [.Name x p2] X.env = (false, eval (.Name x p2) X.env) :: starEach [] X.env := by rfl)
    (hpl : (backTo pos (starEach [.Name x p2] X.env)).any (·.1) = false := by rfl) : SE X (.Call (.Name "isinstance" p) [e, .Name x p2] [] pos) (m1 (isXoD tab) me) :=
  ⟨fun W tk => PE.imp (pe_callB call_isXo hg hm boot_isinstance (pa_cons (he.run W tk) (pa_cons (pe_bltn (v := .ty T) hgx hmx hv rfl hn hdb) pa_nil hs2) hs) (by decide) (by decide) hs hpl) fun σ H Q q => tIsXo_of (.ty T) hT q⟩
end

/-! #### e.f -/
def attrXo (f : Str) : F1 := fun d st => match d with
  | .loc n => match st[n]? with
    | some (.xo _ fs) => match fs.lookup f with
      | some z => .ok z st
      | none => .bad
    | _ => .bad
  | _ => .bad
theorem lookup_rel {Γ : Gm} {mp : List Addr} {H : Hp} {f : Str} : ∀ {fs : List (Str × D)} {vs : List (Str × V)} {z : D}, vs.map (·.1) = fs.map (·.1) → RvL Γ mp H (fs.map (·.2)) (vs.map (·.2)) → fs.lookup f = some z → ∃ v, vs.lookup f = some v ∧ Rv Γ mp H z v
  | [], vs, z, e, r, h => by cases h
  | p :: fs, vs, z, e, r, h => by
    cases vs with
    | nil => simp at e
    | cons q vs =>
      simp only [List.map_cons, List.cons.injEq] at e
      simp only [List.map_cons, RvL] at r
      obtain ⟨v, r', e2, r1, r2⟩ := r
      simp only [List.cons.injEq] at e2
      obtain ⟨rfl, rfl⟩ := e2
      obtain ⟨p1, p2⟩ := p
      obtain ⟨q1, q2⟩ := q
      obtain ⟨e1, e3⟩ := e
      simp only at e1 r1; subst e1
      by_cases hf : f = q1
      · subst hf
        simp [List.lookup] at h ⊢
        subst h
        exact r1
      · have hb : (f == q1) = false := by simpa using hf
        simp only [List.lookup, hb] at h ⊢
        exact lookup_rel e3 r2 h
def rAtX (K : PySem.W.Frag) (f : Str) : V → Hp → VK → Prop := fun x H Q => ∃ (a C dx : Addr) (fs : List (Str × V)) (v : V), x = .ref a ∧ XoF K C ∧ PySem.W.findIn K (.ref C) f = some none ∧ H a = some (exo a C (some dx)) ∧ H dx = some (exd dx fs) ∧ fs.lookup f = some v ∧ Q v H
theorem pe_atX {X : Cx} {e : Expr} {te : TE} {f : Str} {pos : Pos} (he : PE X e te) (hb : attributeBase e f X.env (eval e X.env) = eval e X.env := by rfl) : PE X (.Attribute e f pos) (fun σ H Q => te σ H fun x H1 => rAtX X.K f x H1 Q) := by
  refine ⟨fun pins s σ H Q I h => attr_of hb (thn (he.run pins s σ H _ I h) fun u s1 hh => ?_)⟩
  obtain ⟨x, H1, I1, rx, a, C, dx, fs, v, rfl, F, hno, e1, e2, hl, q⟩ := hh
  cases rx
  obtain ⟨t1, ho⟩ := exo_at I1.hok e1
  obtain ⟨mA, hns, hr⟩ := exd_at I1.hok e2
  obtain ⟨od, hod, hlk⟩ := lookIn_ns hns
  obtain ⟨w, hw, rw'⟩ := RelO.some_of (v := v) (o := mA f) (by rw [← hl]; exact hr f)
  exact HandSPX.exc_get I1.kIn ⟨ho, rfl, rfl, hod⟩ F.ga F.gg F.exC (PySem.W.findObj_own F.hdC hno rfl (by rw [hlk, hw])) (handed_of rw') ⟨v, H1, I1.tok _, rw', q⟩
/-- the classes whose field f is asked -/
def XoAt (Γ : Gm) (f : Str) (cs : List Str) : Prop := ∀ c ∈ cs, ∃ C, Γ.mg c = some (.ref C) ∧ XoF Γ.K C ∧ PySem.W.findIn Γ.K (.ref C) f = some none
def attrX (f : Str) (cs : List Str) : F1 := fun d st => match d with
  | .loc n => match st[n]? with
    | some (.xo c fs) => if c ∈ cs then (match fs.lookup f with
      | some z => .ok z st
      | none => .bad) else .bad
    | _ => .bad
  | _ => .bad
theorem se_atX {X : Cx} {e : Expr} {me : ME} {f : Str} {cs : List Str} {pos : Pos} (T : XoAt (gm X) f cs) (he : SE X e me) (hb : attributeBase e f X.env (eval e X.env) = eval e X.env := by rfl) : SE X (.Attribute e f pos) (m1 (attrX f cs) me) :=
  ⟨fun W tk => PE.imp (pe_atX (he.run W tk) hb) fun σ H Q h => by
    obtain ⟨mp, st, ρ, R, E, P⟩ := tG_bind (Rel := Rv (gm X)) (m := me) (k := fun _ d st1 => attrX f cs d st1) h
    refine ⟨mp, st, ρ, R, E, P.mono fun v H1 ⟨mp1, st1, ρ1, d, R1, E1, r1, P1⟩ => ?_⟩
    unfold attrX at P1
    split at P1
    · rename_i n
      simp only [Rv] at r1
      obtain ⟨a, rfl, ha⟩ := r1
      split at P1
      · rename_i c fs hc
        split at P1
        · rename_i hmem
          split at P1
          · rename_i z hz
            obtain ⟨C, hC, F, hno⟩ := T c hmem
            obtain ⟨C', hC', ⟨n0, _⟩ | ⟨dx, vs, h1, h2, nd, k, r⟩⟩ := R1.cell n _ a hc ha
            · subst n0; cases hz
            · have : C' = C := by rw [hC] at hC'; cases hC'; rfl
              subst this
              obtain ⟨w, hw, rz⟩ := lookup_rel k r hz
              exact ⟨a, C', dx, vs, w, rfl, F, hno, h1, h2, hw, post_here P1 R1 rz⟩
          · exact P1.elim
        · exact P1.elim
      · exact P1.elim
    · exact P1.elim⟩

/-! #### C(..) -/
/-- what __init__ does: the fields fs are set, in this order -/
def spI (fs : List Str) (C : Addr) : Sp := fun vs H Q _ => ∃ (a : Addr) (ws : List V), vs = .ref a :: ws ∧ ws.length = fs.length ∧ H a = some (exo a C none) ∧
  ∀ (d : Addr) (H' : Hp), H d = none → d ≠ a → (∀ b, b ≠ d → b ≠ a → H' b = H b) → H' a = some (exo a C (some d)) → H' d = some (exd d (fs.zip ws).reverse) → Q .non H'
/-- a class whose __init__ sets fs -/
def MkS (P : Program) (w : World) (K : PySem.W.Frag) (mg : Str → Option Value) (base : Heap) (k : Nat) (c : Str) (fs : List Str) : Prop :=
  ∃ C fI fd, mg c = some (.ref C) ∧ OexC K C ∧ PySem.W.findIn K (.ref C) "__init__" = some (some (.ref fI)) ∧ PySem.W.typeIn K (.ref fI) = some (.type "function") ∧ Binds K fd ("self" :: fs) [] ∧ FnOk P w K mg base CX0 k fI fd ("self" :: fs) (spI fs C)
section
variable {X : Cx} {x : Str} {e : Expr} {es : List Expr} {ta : TA} {p pos : Pos} {k : Nat}
/-- C(e, ..) as a value -/
theorem pe_mko {CX : CXT} {C fI : Addr} {fd : FuncData} {ps : List Str} {sp : Sp} (T : OexC X.K C) (iC : PySem.W.findIn X.K (.ref C) "__init__" = some (some (.ref fI))) (tI : PySem.W.typeIn X.K (.ref fI) = some (.type "function"))
    (F1 : FnOk X.prog X.w X.K X.mg X.base CX k fI fd ps sp) (hr : Room (k + 1) X.A) (hb : Binds X.K fd ps []) (hx : Passes CX X (fun _ _ _ => False)) (hg : Gl X x) (hm : X.mg x = some (.ref C)) (ha : PA X (e :: es) ta)
    (hdb : (x == ("__debug__" : Str)) = false := by decide) (he : starEach (e :: es) X.env = (false, eval e X.env) :: starEach es X.env := by rfl) (hpl : (backTo pos (starEach es X.env)).any (·.1) = false := by rfl) :
    PE X (.Call (.Name x p) (e :: es) [] pos) (fun σ H Q => ta σ H fun vs H1 => vs.length ≤ 1000 ∧ ∀ a, H1 a = none → sp (.ref a :: vs) (upd H1 a (exo a C none)) (fun v H2 => v = .non ∧ Q (.ref a) H2) (fun _ _ _ => False)) := by
  refine ⟨fun pins s σ H Q I h => ?_⟩
  obtain ⟨nm, q, N, bs, bm, sn, sub, ab, col, dd, k0, k1, k2, k3, k5, hC, hbm⟩ := T.cls
  refine wpAny_Call_Name_kw (ld_glob I hg hm ?_ hdb)
  refine PySem.W.callWith_K (h₀ := X.base) I.ok.mod.kin T.kC (thn (ha.run pos pins s σ H _ I h) fun us s1 ⟨vs, H1, I1, r1, hz, q1⟩ => ⟨I1.kIn, ?_⟩) he hpl
  obtain ⟨hp, g, dr, tk, os⟩ := s1
  have hsz : hp.objs.size ≤ hp.objs.size + 1 := Nat.le_succ _
  have hq := q1 (hp.objs.size + 1) (I1.hok.fresh hsz)
  have kk : ∀ b o, hp.get? b = some o → ((hp.push (PySem.W.kdv_tup us)).push (PySem.HandSPX.excO C hp.objs.size)).get? b = some o := fun b o e => Heap.get?_push_of_some _ (Heap.get?_push_of_some _ e)
  have I2 := I1.laid (t' := tk) (a := hp.objs.size + 1) (o := exo (hp.objs.size + 1) C none) (h' := (hp.push (PySem.W.kdv_tup us)).push (PySem.HandSPX.excO C hp.objs.size)) kk hsz (exo_ok (by heap_get))
  have r2 : Vals (V.ref (hp.objs.size + 1) :: vs) (Value.ref (hp.objs.size + 1) :: us) := .cons rfl r1
  have hus : us.length ≤ sizeLine := by rw [← Paired.length r1, sizeLine_eq]; omega
  have hl : (Value.ref (hp.objs.size + 1) :: us).length = ps.length := by
    rw [← F1.len _ _ _ _ hq, List.length_cons, List.length_cons, Paired.length r1]
  refine wpAny_call (PySem.HandSPX.call_own F.excBase_ValueError (fun Y => PySem.HandSPX.refsVE_contains Y bm hbm) (I1.kIn _ _ hC) (PySem.W.looks_findIn I1.kIn iC) (fun self => PySem.W.bind_fn I1.kIn self tI) hus
    (codeAny_mono (F1.run _ X.stack _ _ ⟨Value.ref (hp.objs.size + 1) :: us, []⟩ (Value.ref (hp.objs.size + 1) :: us) _ _ (fun _ _ _ => False) (hr.make C us []) (I2.env0.make C us []) (by have b := hb _ (Value.ref (hp.objs.size + 1) :: us) I2.kIn (by rw [List.append_nil]; exact hl); rwa [List.append_nil] at b) r2 hq) fun r s' hq' => ?_))
  cases r with
  | error er => exact hx pins σ _ _ er s' I2 hq'
  | ok fl =>
    cases fl with
    | ret u =>
      obtain ⟨v, H', J, rv, ev, q2⟩ := I2.after hq'
      subst ev
      exact ⟨rv, .ref (hp.objs.size + 1), H', J, rfl, q2⟩
    | next => exact False.elim hq'
    | brk => exact False.elim hq'
    | cont => exact False.elim hq'
end
section
variable {X : Cx} {x : Str} {e : Expr} {es : List Expr} {ms : List ME} {p pos : Pos} {k : Nat} {fs : List Str} {Γ : Gm} {mp : List Addr} {H H' : Hp} {st : Mem}
def mMk (c : Str) (fs : List Str) (ms : List ME) : ME := mF (fun ds st => if ds.length = fs.length then .ok (.loc st.length) (st ++ [.xo c (fs.zip ds).reverse]) else .bad) ms
theorem zip_rel {ds : List D} {vs : List V} (r : RvL Γ mp H ds vs) (hl : ds.length = fs.length) : (fs.zip vs).reverse.map (·.1) = (fs.zip ds).reverse.map (·.1) ∧ RvL Γ mp H ((fs.zip ds).reverse.map (·.2)) ((fs.zip vs).reverse.map (·.2)) := by
  have h2 := r.length
  rw [List.map_reverse, List.map_reverse, List.map_reverse, List.map_reverse, List.map_fst_zip (by omega), List.map_fst_zip (by omega), List.map_snd_zip (by omega), List.map_snd_zip (by omega)]
  refine ⟨rfl, RvL.of_get (by simp [h2]) fun i d v e1 e2 => ?_⟩
  have hi : i < ds.length := by have := (List.getElem?_eq_some_iff.mp e1).1; simpa using this
  rw [List.getElem?_reverse (by omega)] at e1 e2
  rw [h2] at e1
  obtain ⟨u, h3, h4⟩ := r.get e1
  rw [h3] at e2; cases e2; exact h4
/-- an exception object is new -/
theorem xo_new {C a d : Addr} {c : Str} {ds : List D} {vs : List V} (R : RelM Γ mp H st) (hm : Γ.mg c = some (.ref C)) (na : H a = none) (nd : upd H a (exo a C none) d = none) (hd : d ≠ a) (hl : ds.length = fs.length) (r : RvL Γ mp H ds vs)
    (h0 : ∀ b, b ≠ d → b ≠ a → H' b = upd H a (exo a C none) b) (h1 : H' a = some (exo a C (some d))) (h2 : H' d = some (exd d (fs.zip vs).reverse)) :
    Ext mp H (mp ++ [a]) H' ∧ RelM Γ (mp ++ [a]) H' (st ++ [.xo c (fs.zip ds).reverse]) := by
  have nd' : H d = none := by rw [upd_ne hd] at nd; exact nd
  have eH : H' = upd (upd H d (exd d (fs.zip vs).reverse)) a (exo a C (some d)) := by
    funext b
    by_cases hb : b = a
    · subst hb; rw [upd_same, h1]
    · by_cases hb2 : b = d
      · subst hb2; rw [upd_ne hb, upd_same, h2]
      · rw [upd_ne hb, upd_ne hb2, h0 b hb2 hb, upd_ne hb]
  have R1 : RelM Γ mp (upd H d (exd d (fs.zip vs).reverse)) st := R.laid nd'
  have x1 : Ext mp H mp (upd H d (exd d (fs.zip vs).reverse)) := ext_laid nd'
  have na1 : upd H d (exd d (fs.zip vs).reverse) a = none := by rw [upd_ne (Ne.symm hd)]; exact na
  have x2 : Ext mp (upd H d (exd d (fs.zip vs).reverse)) (mp ++ [a]) (upd (upd H d (exd d (fs.zip vs).reverse)) a (exo a C (some d))) := ext_cell na1
  have dn : d ∉ mp := R.fresh nd'
  obtain ⟨z1, z2⟩ := zip_rel r hl
  rw [eH]
  refine ⟨x1.trans x2, R1.push na1 ⟨C, hm, .inr ⟨d, _, upd_same, ?_, ?_, z1, RvL.ext (x1.trans x2) _ _ z2⟩⟩⟩
  · rw [upd_ne hd, upd_same]
  · intro z
    rcases List.mem_append.mp z with z | z
    · exact dn z
    · exact hd (by simpa using z)
theorem se_mk (T : MkS X.prog X.w X.K X.mg X.base k x fs) (hr : XR (k + 1) X) (hg : Gl X x) (ha : SA X (e :: es) ms) (hl : fs.length ≤ 1000 := by decide)
    (hdb : (x == ("__debug__" : Str)) = false := by decide) (he : starEach (e :: es) X.env = (false, eval e X.env) :: starEach es X.env := by rfl) (hpl : (backTo pos (starEach es X.env)).any (·.1) = false := by rfl) :
    SE X (.Call (.Name x p) (e :: es) [] pos) (mMk x fs ms) := by
  obtain ⟨C, fI, fd, hm, O, iC, tI, hb, F1⟩ := T
  refine ⟨fun W tk => PE.imp (pe_mko O iC tI F1 hr.room hb pass0 hg hm (ha.run W tk) hdb he hpl) fun σ H Q h => ?_⟩
  obtain ⟨mp, st, ρ, R, E, P⟩ := tA_of h
  refine ⟨mp, st, ρ, R, E, P.mono fun vs H1 ⟨mp1, st1, ds, hd, R1, rl, P1⟩ => ?_⟩
  split at P1
  · rename_i hds
    refine ⟨by rw [← rl.length]; omega, fun a na => ⟨a, vs, rfl, by rw [← rl.length]; exact hds, upd_same, fun d H' nd hda h0 h1 h2 => ⟨rfl, ?_⟩⟩⟩
    obtain ⟨x1, R2⟩ := xo_new R1 hm na nd hda hds rl h0 h1 h2
    exact P1 _ H' (.ref a) x1 R2 (by simp only [Rv]; exact ⟨a, rfl, by rw [← R1.len]; simp⟩)
  · exact P1.elim
/-! #### raise C(..) -/
def sRaise (c : Str) (fs : List Str) (ms : List ME) : MS := fun ρ st => (mArgs ms ρ st).toS ρ fun ds st1 => if ds.length = fs.length then .exc ⟨c, (fs.zip ds).reverse⟩ ρ st1 else .bad
theorem s_raise (T : MkS X.prog X.w X.K X.mg X.base k x fs) (hr : XC (k + 1) X) (hg : Gl X x) (ha : SA X (e :: es) ms) {pos' : Pos} (hl : fs.length ≤ 1000 := by decide)
    (hdb : (x == ("__debug__" : Str)) = false := by decide) (he : starEach (e :: es) X.env = (false, eval e X.env) :: starEach es X.env := by rfl) (hpl : (backTo pos (starEach es X.env)).any (·.1) = false := by rfl) :
    SS X (.Raise (some (.Call (.Name x p) (e :: es) [] pos)) none pos') (sRaise x fs ms) := by
  obtain ⟨C, fI, fd, hm, O, iC, tI, hb, F1⟩ := T
  refine ⟨fun W tk => PS.imp (ps_raise hr.calm tk (pmk_oex (ds := []) (dvs := []) O iC tI F1 hr.xr.room hb .nil pass0 hg hm (ha.run W tk) hdb he hpl)) fun D σ H h => ?_⟩
  obtain ⟨mp, st, ρ, R, E, P⟩ := tS_toS (Rel := RvL (gm X)) (x := mArgs ms) (k := fun ρ ds st1 => if ds.length = fs.length then .exc ⟨x, (fs.zip ds).reverse⟩ ρ st1 else .bad) h
  refine ⟨mp, st, ρ, R, E, P.mono fun vs H1 ⟨mp1, st1, ρ1, ds, R1, E1, rl, P1⟩ => ?_⟩
  split at P1
  · rename_i hds
    refine ⟨by rw [← rl.length]; omega, fun a na => ⟨a, vs, by rw [List.append_nil], by rw [← rl.length]; exact hds, upd_same, fun d H' nd hda h0 h1 h2 => ⟨rfl, d, _, h1, h2, ?_, ?_⟩⟩⟩
    · rw [upd_ne hda] at nd; exact nd
    · have nd' : H1 d = none := by rw [upd_ne hda] at nd; exact nd
      have eH : upd (del H' a) d (.xd (fs.zip vs).reverse) = upd H1 d (.xd (fs.zip vs).reverse) := by
        funext b
        by_cases hb : b = d
        · subst hb; rw [upd_same, upd_same]
        · rw [upd_ne hb, upd_ne hb]
          by_cases hb2 : b = a
          · subst hb2; rw [del_same, na]
          · rw [del_ne hb2, h0 b hb hb2, upd_ne hb2]
      rw [eH]
      obtain ⟨z1, z2⟩ := zip_rel rl hds
      exact P1 mp1 _ (.ref C) (some d) σ (ext_laid nd') (R1.laid nd') ⟨C, d, _, hm, rfl, rfl, upd_same, R1.fresh nd', z1, RvL.ext (ext_laid nd') _ _ z2⟩ (E1.ext (ext_laid nd'))
  · exact P1.elim
end
end VI
set_option maxHeartbeats 4000000
namespace VI
open PySem PySem.Spec PyProof.Rows L2

/-! ### the law's end -/
/-- the tables at the heap behind the top -/
structure TabF (K : PySem.W.Frag) (h : Heap) : Prop where
  em : ∀ t ∈ codeT K, h.get? t.2.1 = some { cls := .none, data := .fields #[] }
  nK : ∀ t ∈ codeT K, K.lookup t.2.1 = none
  hd : ∀ t ∈ codeT K, PySem.W.CodeHd h t.1 t.2.1
  uq : ∀ p ∈ tabT K, ∀ q ∈ tabT K, p.1 = q.1 → p.2 = q.2
theorem TabF.keeps {K : PySem.W.Frag} {h h' : Heap} (t : TabF K h) (k : ∀ b o, h.get? b = some o → h'.get? b = some o) : TabF K h' :=
  ⟨fun x hx => k _ _ (t.em x hx), t.nK, fun x hx => (t.hd x hx).keeps k, t.uq⟩
section
variable {P : Program} {w : World} {K : PySem.W.Frag} {mg mb : Str → Option Value} {k : Nat} {fa a : Addr} {fd : FuncData} {x : Str} {F : FL} {s₁ : Shared} {vs : List Value} {ns : List Int}
def tabA (K : PySem.W.Frag) : List Addr := (codeT K).map (·.2.1)
theorem tabA_of {K : PySem.W.Frag} {b : Addr} (h : b ∈ tabA K) : ∃ t ∈ codeT K, t.2.1 = b := by
  obtain ⟨t, h1, h2⟩ := List.mem_map.mp h
  exact ⟨t, h1, h2⟩
/-- from a heap in which the script and the tables alone may be tracked -/
theorem end_core (KX : K.In s₁.heap) (hns : s₁.heap.Ns mainGlobals mg) (hb : s₁.heap.Ns builtinsNs mb) (hbb : ∀ x : Str, x ≠ "__name__" → mb x = bootBuiltins x) (hlim : s₁.heap.NoLimit) (hg : s₁.gens = #[]) (TF : TabF K s₁.heap)
    (hbm : ∃ (bm : Addr) (ob : Obj), mg "__builtins__" = some (.ref bm) ∧ bm ≠ builtinsNs ∧ s₁.heap.get? bm = some ob ∧ ob.cls = .type "module" ∧ ob.dict = some builtinsNs ∧ ob.data = .plain)
    (ha : s₁.heap.get? a = some { cls := .type "list", data := .seq vs.toArray }) (hr : Room k callerA)
    (FN : ∀ base : Heap, K.In base → base.Ns mainGlobals mg → TabAll K mg base → FnS P w K mg base k fa fd [x] F) (hbind : ∀ (s : Shared) (u : Value), BindsTo s fd ⟨[u], []⟩ [(x, u)])
    (hF : ∃ st, F [.fz (ns.map .int)] [] = .ok (.bl true) st) (H : Hp) (hT : ∀ b ∈ tabA K, H b = some (.tbl #[])) (hO : ∀ b, H b = none ∨ b ∈ tabA K ∨ ∃ o xs, H b = some (.frz o (.lst xs))) (hS : SqL K H a (ns.map V.int)) (hok : HOk P w H s₁.heap)
    (hA : ∀ b, H b ≠ none → b = a ∨ b ∈ tabA K) (hK : H a ≠ none → K.lookup a = none) :
    codeAny (model P w) callerA (.call (.ref fa) ⟨[.ref a], []⟩) (fun r s' => r = .ok (.ret (.bool true)) ∧ OldK s₁.heap s'.heap ∧ s'.os = s₁.os ∧ AllBare s'.gens) s₁ := by
  have isT : ∀ b : Addr, b ∈ tabA K → s₁.heap.get? b = some { cls := .none, data := .fields #[] } := fun b hb => by
    obtain ⟨t, h1, rfl⟩ := tabA_of hb
    exact TF.em t h1
  have odd : ∀ {b : Addr} {o : Obj}, s₁.heap.get? b = some o → (∀ us n, o.data ≠ .seq us n) → o.data ≠ .fields #[] → H b = none := fun {b o} e h1 h2 => by
    cases q : H b with
    | none => rfl
    | some u =>
      rcases hA b (by rw [q]; simp) with e' | e'
      · rw [e', ha] at e
        cases e
        exact (h1 _ _ rfl).elim
      · rw [isT b e'] at e
        cases e
        exact (h2 rfl).elim
  have dictN : ∀ {b : Addr} {o : Obj} {es : Array DictEntry} {ep : Nat}, s₁.heap.get? b = some o → o.data = .dict es ep → H b = none := fun {b o es ep} e dt =>
    odd e (fun us n z => by rw [dt] at z; cases z) (fun z => by rw [dt] at z; cases z)
  have nsB : ∀ {b : Addr} {m : Str → Option Value}, s₁.heap.Ns b m → (hidT s₁.heap H).Ns b m := fun {b m} ⟨o, es, ep, e, dt, r⟩ => ⟨o, es, ep, hidT_get e (dictN e dt), dt, r⟩
  have kB : K.In (hidT s₁.heap H) := fun b o e => hidT_get (KX b o e) (by
    cases q : H b with
    | none => rfl
    | some u =>
      rcases hA b (by rw [q]; simp) with e' | e'
      · rw [e', hK (by rw [← e', q]; simp)] at e
        cases e
      · obtain ⟨t, h1, h2⟩ := tabA_of e'
        rw [← h2, TF.nK t h1] at e
        cases e)
  have hM : Mod K mg (hidT s₁.heap H) := ⟨kB, nsB hns, ⟨mb, nsB hb, hbb⟩, by obtain ⟨mc, h1, h2⟩ := hlim; exact ⟨mc, nsB h1, h2⟩⟩
  have TB0 : ∀ t ∈ codeT K, LamX.TabB (hidT s₁.heap H) mg t.1 t.2.1 := fun t ht => by
    have em := TF.em t ht
    have nt : ∀ {b : Addr} {o : Obj} {us : Array Value}, s₁.heap.get? b = some o → o.data = .fields us → us ≠ #[] → H b = none := fun {b o us} e dt nu => odd e (fun vs n z => by rw [dt] at z; cases z) (fun z => by rw [dt] at z; cases z; exact nu rfl)
    refine ⟨?_, ?_, fun z => ?_⟩
    · obtain ⟨o, us, file, tf, flags, tg, inF, text, tt, e1, r1, r2, r3, r4, r5, r6, r7, r8, hne⟩ := TF.hd t ht
      exact ⟨o, us, file, tf, flags, tg, inF, text, tt, hidT_get e1 (nt e1 r2 (fun z => by subst z; simp at r3)), r1, r2, r3, r4, r5, r6, r7, r8, hne⟩
    · obtain ⟨bm, ob, b1, b2, b3, b4, b5, b6⟩ := hbm
      have nG : bm ≠ mainGlobals := fun q => by
        obtain ⟨o, es, ep, e, dt, _⟩ := hns
        rw [q, e] at b3
        cases b3
        rw [dt] at b6
        cases b6
      have nP : bm ≠ t.2.1 := fun q => by
        rw [q, em] at b3
        cases b3
        cases b6
      exact ⟨bm, ob, b1, b2, nG, nP, hidT_get b3 (odd b3 (fun us n z => by rw [b6] at z; cases z) (fun z => by rw [b6] at z; cases z)), b4, b5, b6⟩
    · obtain ⟨o, es, ep, e, dt, _⟩ := hns
      rw [z, em] at e
      cases e
      cases dt
  have TB : TabAll K mg (hidT s₁.heap H) := ⟨TB0, TF.uq⟩
  have e0 : Env0 P w K mg (hidT s₁.heap H) callerA [] s₁ H := ⟨rfl, hM, fun b o e => of_hidT e, Nat.le_of_eq (hidT_size _ _), trivial, fun b z => absurd (show b ∈ ([] : List Addr) from z) (by simp), hok, .of_eq hg⟩
  have R0 : RelM ⟨K, mg⟩ [] H [] := ⟨rfl, List.nodup_nil, fun n c b e => by simp at e, fun p hp => by
    obtain ⟨t, h1, rfl⟩ := List.mem_map.mp hp
    exact LamX.TabS.nil (hT _ (List.mem_map.mpr ⟨t, h1, rfl⟩))⟩
  have hIs : ∀ l : List Int, RvL ⟨K, mg⟩ [] H (l.map D.int) (l.map V.int) := fun l => by
    induction l with
    | nil => exact RvL.nil
    | cons i l ih => exact RvL.cons (by simp [Rv]) ih
  have rD : RvL ⟨K, mg⟩ [] H [.fz (ns.map .int)] [.ref a] := RvL.cons (by
    simp only [Rv]
    exact ⟨a, _, rfl, hS.elim (fun z => .inl ⟨z, by simp⟩) .inr, hIs ns⟩) RvL.nil
  obtain ⟨st, hF⟩ := hF
  refine codeAny_mono ((FN _ kB (nsB hns) TB).run callerA [] s₁ H ⟨[.ref a], []⟩ [.ref a] [.ref a] _ [] [] (fun v _ => v = .bl true) (fun _ _ _ => False) hr rfl e0 (hbind s₁ (.ref a)) (.cons rfl .nil) rfl R0 rD (by
    rw [hF]
    exact fun mp' H' v x1 R1 r1 => by simpa only [Rv] using r1)) fun r s' h => ?_
  cases r with
  | error e =>
    obtain ⟨_, _, _, _, _, _, _, _, _, _, _, _, z⟩ := h
    exact z.elim
  | ok fl =>
    cases fl with
    | next => exact False.elim h
    | brk => exact False.elim h
    | cont => exact False.elim h
    | ret u =>
      obtain ⟨v, H', os, bare, un, hok', r', q⟩ := h
      have q' : v = .bl true := q
      subst q'
      obtain rfl : u = Value.bool true := r'
      have stays : ∀ b o, b ∉ tabA K → s₁.heap.get? b = some o → s'.heap.get? b = some o := fun b o nb e => by
        cases q : H b with
        | none => exact un.keep b o e q (fun z => absurd (show b ∈ ([] : List Addr) from z) (by simp)) (by simp)
        | some u =>
          rcases hO b with z | z | ⟨ob, xs, z⟩
          · rw [q] at z; cases z
          · exact absurd z nb
          · obtain ⟨e1, _⟩ := hok b _ z
            obtain ⟨e2, _⟩ := hok' b _ (un.frzs b ob _ z)
            rw [e] at e1; cases e1
            exact e2
      have grown : ∀ b ∈ tabA K, ∃ more : Array Value, s'.heap.get? b = some { cls := .none, data := .fields more } := fun b hb => by
        obtain ⟨more, z⟩ := un.tbls b #[] (hT b hb)
        exact ⟨_, hok' b _ z⟩
      refine ⟨rfl, ⟨fun b o e => ?_, fun b o e => ?_⟩, os, bare⟩
      · by_cases nb : b ∈ tabA K
        · obtain ⟨more, hm⟩ := grown b nb
          obtain ⟨t, h1, h2⟩ := tabA_of nb
          subst h2
          rw [TF.em t h1] at e
          cases e
          exact .inr (.inl ⟨((TF.hd t h1).tab (TF.em t h1)).isCodeTable, rfl, #[], more, rfl, by rw [Array.empty_append]; exact hm⟩)
        · exact .inl (stays b o nb e)
      · by_cases nb : b ∈ tabA K
        · obtain ⟨more, hm⟩ := grown b nb
          exact ⟨_, hm⟩
        · exact ⟨o, stays b o nb e⟩
theorem law_callV (KX : K.In s₁.heap) (hns : s₁.heap.Ns mainGlobals mg) (hb : s₁.heap.Ns builtinsNs mb) (hbb : ∀ x : Str, x ≠ "__name__" → mb x = bootBuiltins x) (hlim : s₁.heap.NoLimit) (hg : s₁.gens = #[]) (TF : TabF K s₁.heap)
    (hbm : ∃ (bm : Addr) (ob : Obj), mg "__builtins__" = some (.ref bm) ∧ bm ≠ builtinsNs ∧ s₁.heap.get? bm = some ob ∧ ob.cls = .type "module" ∧ ob.dict = some builtinsNs ∧ ob.data = .plain)
    (ha : s₁.heap.get? a = some { cls := .type "list", data := .seq vs.toArray }) (hi : IntsAre vs ns) (hl : ns.length ≤ sizeLine) (hr : Room k callerA)
    (FN : ∀ base : Heap, K.In base → base.Ns mainGlobals mg → TabAll K mg base → FnS P w K mg base k fa fd [x] F) (hbind : ∀ (s : Shared) (u : Value), BindsTo s fd ⟨[u], []⟩ [(x, u)])
    (hF : ∃ st, F [.fz (ns.map .int)] [] = .ok (.bl true) st) :
    codeAny (model P w) callerA (.call (.ref fa) ⟨[.ref a], []⟩) (fun r s' => r = .ok (.ret (.bool true)) ∧ OldK s₁.heap s'.heap ∧ s'.os = s₁.os ∧ AllBare s'.gens) s₁ := by
  have rv := vals_ints hi
  have nT : a ∉ tabA K := fun z => by
    obtain ⟨t, h1, h2⟩ := tabA_of z
    have q := TF.em t h1
    rw [h2, ha] at q
    cases (show Data.seq vs.toArray _ = Data.fields #[] from congrArg Obj.data (Option.some.inj q))
  have isT : ∀ b : Addr, b ∈ tabA K → s₁.heap.get? b = some { cls := .none, data := .fields #[] } := fun b hb => by
    obtain ⟨t, h1, rfl⟩ := tabA_of hb
    exact TF.em t h1
  cases hk : K.lookup a with
  | some o =>
    have e := KX a o hk
    rw [ha] at e
    cases e
    have H0 : ∀ {b : Addr} {u : HO}, (if b ∈ tabA K then some (HO.tbl #[]) else none) = some u → b ∈ tabA K ∧ u = .tbl #[] := fun {b u} z => by
      split at z
      · exact ⟨by assumption, by cases z; rfl⟩
      · cases z
    refine end_core KX hns hb hbb hlim hg TF hbm ha hr FN hbind hF (fun b => if b ∈ tabA K then some (.tbl #[]) else none) (fun b hb => if_pos hb) (fun b => ?_) (.inr ⟨_, vs.toArray, _, hk, rfl, rfl, rfl, by rw [List.size_toArray, hi.length]; exact hl, by simpa using rv⟩) (fun b u z => ?_) (fun b z => ?_) fun z => absurd (if_neg nT) z
    · by_cases hb : b ∈ tabA K
      · exact .inr (.inl hb)
      · exact .inl (if_neg hb)
    · obtain ⟨h1, rfl⟩ := H0 z
      exact isT b h1
    · by_cases hb : b ∈ tabA K
      · exact .inr hb
      · exact absurd (if_neg hb) z
  | none =>
    let o : HO := .frz { cls := .type "list", data := .seq vs.toArray } (.lst (ns.map V.int))
    have H0 : ∀ {b : Addr} {u : HO}, (if b = a then some o else if b ∈ tabA K then some (HO.tbl #[]) else none) = some u → (b = a ∧ u = o) ∨ (b ∈ tabA K ∧ u = .tbl #[]) := fun {b u} z => by
      split at z
      · exact .inl ⟨by assumption, by cases z; rfl⟩
      · split at z
        · exact .inr ⟨by assumption, by cases z; rfl⟩
        · cases z
    refine end_core KX hns hb hbb hlim hg TF hbm ha hr FN hbind hF (fun b => if b = a then some o else if b ∈ tabA K then some (.tbl #[]) else none) (fun b hb => ?_) (fun b => ?_) (.inl (.inr ⟨{ cls := .type "list", data := .seq vs.toArray }, if_pos rfl⟩)) (fun b u z => ?_) (fun b z => ?_) fun _ => hk
    · exact (if_neg (fun z : b = a => nT (by rw [← z]; exact hb))).trans (if_pos hb)
    · by_cases hb : b = a
      · exact .inr (.inr ⟨_, _, if_pos hb⟩)
      · by_cases h2 : b ∈ tabA K
        · exact .inr (.inl h2)
        · exact .inl ((if_neg hb).trans (if_neg h2))
    · rcases H0 z with ⟨rfl, rfl⟩ | ⟨h1, rfl⟩
      · exact ⟨ha, by rw [List.length_map]; exact hl, vs, _, rv, ha⟩
      · exact isT b h1
    · by_cases hb : b = a
      · exact .inl hb
      · by_cases h2 : b ∈ tabA K
        · exact .inr h2
        · exact absurd ((if_neg hb).trans (if_neg h2)) z
end
/-- a law: what its def says at every script -/
theorem walk_ofV {l : PySem.W.OpenLaw} {n k : Nat} {q : Program} {loose : List Str} {XP : (Str → Option Value) → Heap → Prop} {YP : World → Heap → Prop} {d : DefRec} {x : Str}
    (hn : l.most = some n) (hn2 : n ≤ sizeLine) (hdf : d.params.defaults = []) (hr : Room k callerA)
    (hF : ∀ (w : World) (mg : Str → Option Value) (fa : Addr) (h : Heap), YP w h → h.Ns mainGlobals mg → mg d.name = some (.ref fa) →
      ∃ (K : PySem.W.Frag) (fd : FuncData) (F : FL), K.In h ∧ TabF K h ∧ (∀ (s : Shared) (u : Value), BindsTo s fd ⟨[u], []⟩ [(x, u)]) ∧ (∀ ns : List Int, ns.length ≤ n → ∃ st, F [.fz (ns.map .int)] [] = .ok (.bl true) st) ∧
        ∀ base : Heap, K.In base → base.Ns mainGlobals mg → TabAll K mg base → FnS l.prog w K mg base k fa fd [x] F) :
    PySem.W.WalkO q loose XP YP l.row.toRowW d [] (fun f vs => PySem.call f vs) := by
  refine Att.attach_call hn hdf fun w s₀ s₁ mg mb fa o pm cd doc a vs ns G Y ho hd hcd hmg hobj hints hlen hg => ?_
  obtain ⟨K, fd, F, KX, TF, hb, hL, hFN⟩ := hF w mg fa _ Y G.T.g hmg
  exact law_callV KX G.T.g G.T.b G.T.builtins G.T.nolimit hg TF G.T.bmain hobj hints (Nat.le_trans hlen hn2) hr hFN hb (hL ns hlen)

/-! ### the head's facts -/
/-- an empty table of code objects -/
def emTab : Option Obj → Bool
  | some ⟨.none, none, .fields ps, sl⟩ => ps.size == 0 && sl.size == 0
  | _ => false
def codeB (g : Addr → Option Obj) (c P : Addr) : Bool := match g c with
  | some ⟨.type t, _, .fields vs, _⟩ => t == "code" && ((match (vs.getD 11 .none : Value) with
    | .ref Q => Q == P && decide (11 < vs.size)
    | _ => false) && ((match vs.getD 18 .none with
    | .str _ _ => true
    | _ => false) && ((match vs.getD 7 .none with
    | .int _ _ => true
    | _ => false) && ((match vs.getD 9 .none with
    | .bool _ => true
    | _ => false) && ((match vs.getD 10 .none with
    | .int _ _ => true
    | _ => false) && !(c == P))))))
  | _ => false
def tabFB (K : PySem.W.Frag) (g : Addr → Option Obj) : Bool := (codeT K).all fun t => emTab (g t.2.1) && ((K.lookup t.2.1).isNone && (codeB g t.1 t.2.1 && (tabT K).all fun q => !(t.2.1 == q.1) || t.2.2 == q.2))
theorem emTab_ok {o : Option Obj} (h : emTab o = true) : o = some { cls := .none, data := .fields #[] } := by
  unfold emTab at h
  split at h
  · rename_i ps sl
    simp only [Bool.and_eq_true, beq_iff_eq] at h
    have h1 : ps = #[] := Array.eq_empty_of_size_eq_zero h.1
    have h2 : sl = #[] := Array.eq_empty_of_size_eq_zero h.2
    subst h1 h2
    rfl
  · cases h
theorem codeB_ok {h : Heap} {c P : Addr} (q : codeB h.get? c P = true) : PySem.W.CodeHd h c P := by
  unfold codeB at q
  split at q
  · rename_i t d vs sl e
    simp only [Bool.and_eq_true, beq_iff_eq, Bool.not_eq_true', beq_eq_false_iff_ne, ne_eq] at q
    obtain ⟨rfl, h1, h2, h3, h4, h5, h6⟩ := q
    split at h1
    · rename_i Q eQ
      simp only [Bool.and_eq_true, beq_iff_eq, decide_eq_true_eq] at h1
      obtain ⟨eq, hs⟩ := h1
      subst eq
      have eR : vs[11]? = some (.ref Q) := by
        rw [Array.getD_eq_getD_getElem?, Array.getElem?_eq_getElem hs] at eQ
        rw [Array.getElem?_eq_getElem hs]
        exact congrArg some eQ
      split at h2
      · rename_i a1 a2 e2
        split at h3
        · rename_i b1 b2 e3
          split at h4
          · rename_i c1 e4
            split at h5
            · rename_i d1 d2 e5
              exact ⟨_, vs, a1, a2, b1, b2, c1, d1, d2, e, rfl, rfl, eR, eQ, e2, e3, e4, e5, h6⟩
            · cases h5
          · cases h4
        · cases h3
      · cases h2
    · cases h1
  · cases q
theorem tabFB_ok {K : PySem.W.Frag} {h : Heap} (q : tabFB K h.get? = true) : TabF K h := by
  have z := List.all_eq_true.mp q
  simp only [Bool.and_eq_true] at z
  refine ⟨fun t ht => emTab_ok (z t ht).1, fun t ht => by simpa using (z t ht).2.1, fun t ht => codeB_ok (z t ht).2.2.1, fun p hp r hr e => ?_⟩
  obtain ⟨t, h1, rfl⟩ := List.mem_map.mp hp
  have w := List.all_eq_true.mp (z t h1).2.2.2 r hr
  simp only [Bool.or_eq_true, Bool.not_eq_true', beq_eq_false_iff_ne, ne_eq, beq_iff_eq] at w
  exact w.resolve_left (fun n => n e)
/-- the written part without the tables -/
def notTab : Option Obj → Bool
  | some ⟨.none, none, .fields _, _⟩ => false
  | _ => true
def kV (g : Addr → Option Obj) (n : Nat) : PySem.W.Frag := He.frG g ((He.asD g n).filter fun a => notTab (g a))
/-- the Hook: facts of He, defs, a test of one's own, the tables -/
def hookV (n : Nat) (fa : List He.Fa) (fn : List He.DefD) (ok : PySem.W.Frag → Bool) : PySem.W.Hook where
  α := He.AlD × Bool × Bool
  obs := fun s => (He.obsD fa fn (kV s.heap.get? n), ok (kV s.heap.get? n), tabFB (kV s.heap.get? n) s.heap.get?)
  val := fun _ => (He.valD fn, true, true)
  says := fun _ h => ∃ K : PySem.W.Frag, K.In h ∧ He.SaysD fa fn K ∧ ok K = true ∧ TabF K h
  of := fun _ s e => ⟨kV s.heap.get? n, He.frG_in, (Prod.mk.inj e).1, (Prod.mk.inj (Prod.mk.inj e).2).1, tabFB_ok (Prod.mk.inj (Prod.mk.inj e).2).2⟩
  keeps := fun _ _ _ ⟨K, hK, c, o, t⟩ k => ⟨K, PySem.W.Frag.In.keeps hK k, c, o, t.keeps k⟩
def obV (n : Nat) (fa : List He.Fa) (fn : List He.DefD) (ok : PySem.W.Frag → Bool) (s : PySem.W.SharedT) : He.AlD × Bool × Bool :=
  (He.obsD fa fn (kV (HandSHeadRun.getT s) n), ok (kV (HandSHeadRun.getT s) n), tabFB (kV (HandSHeadRun.getT s) n) (HandSHeadRun.getT s))
theorem obV_eq {n : Nat} {fa : List He.Fa} {fn : List He.DefD} {ok : PySem.W.Frag → Bool} (s : PySem.W.SharedT) : obV n fa fn ok s = (hookV n fa fn ok).obs s.abs := by
  have e : HandSHeadRun.getT s = s.abs.heap.get? := funext (HandSHeadRun.getT_eq s)
  unfold obV
  rw [e] <;> rfl
end VI
set_option maxHeartbeats 4000000
namespace VI
open PySem PySem.Spec PyProof.Rows L2

/-! ### short names for the printed terms -/
def visB (sc : Scope) (x : Str) : Bool := match sc.names.lookup x with
  | some .local => true
  | some .cell => true
  | some .free => true
  | _ => false
theorem vis_of {sc : Scope} {x : Str} (h : visB sc x = true) : Vis sc x := by
  unfold visB at h
  split at h
  · exact .inl (by assumption)
  · exact .inr (.inl (by assumption))
  · exact .inr (.inr (by assumption))
  · cases h
def locB (sc : Scope) (x : Str) : Bool := match sc.names.lookup x with
  | some .local => true
  | some .cell => true
  | _ => false
theorem loc_of {sc : Scope} {x : Str} (h : locB sc x = true) : Loc sc x := by
  unfold locB at h
  split at h
  · exact .inl (by assumption)
  · exact .inr (by assumption)
  · cases h
section
variable {X : Cx} {a b d e : Expr} {ma mb md me : ME} {ta tb : MB} {pos : Pos} {x : Str} {k : Nat}
theorem xv (i : Nat) (hN : X.N[i]? = some x := by rfl) (hv : visB X.env.scope x = true := by rfl) (hd : (x == ("__debug__" : Str)) = false := by decide) (hcd : (x == ("__classdict__" : Str)) = false := by decide) : SE X (.Name x pos) (mVar i) := se_var hN (vis_of hv) hd hcd
theorem xg (i : Nat) (c : XC k X) (hi : X.N[i]? = some x := by rfl) (hx : locB X.env.scope x = true := by rfl) (hf : X.fn x = true ∨ X.env.scope.names.lookup x = some .local := by first | exact .inl rfl | exact .inr rfl) : SG X (.Name x pos) [i] (gNm i) := sg_name c.nd hi (loc_of hx) hf
theorem xset (i : Nat) (c : XC k X) {pos' : Pos} (he : SE X e me) (hi : X.N[i]? = some x := by rfl) (hx : locB X.env.scope x = true := by rfl) (hs : swapsWith e (some (.Name x pos')) pos.line X.env = pure false := by rfl)
    (hf : X.fn x = true ∨ X.env.scope.names.lookup x = some .local := by first | exact .inl rfl | exact .inr rfl) : SS X (.Assign [.Name x pos'] e pos) (sSet i me) := s_set c.nd hi (loc_of hx) he hs hf
theorem x_add (ha : SE X a ma) (hb : SE X b mb) : SE X (.BinOp a .Add b pos) (m2 addD ma mb) := se_op op_add' srv_add ha hb
theorem x_sub (ha : SE X a ma) (hb : SE X b mb) : SE X (.BinOp a .Sub b pos) (m2 subD ma mb) := se_op op_sub srv_sub ha hb
theorem x_mul {mk : List D → Mem → Res D} (hk : MkOk mk) (ha : SE X a ma) (hb : SE X b mb) : SE X (.BinOp a .Mult b pos) (m2 (mulD mk) ma mb) := se_op op_mul' (srv_mul hk) ha hb
theorem x_fdiv (ha : SE X a ma) (hb : SE X b mb) : SE X (.BinOp a .FloorDiv b pos) (m2 fdivD ma mb) := se_op op_fdiv srv_fdiv ha hb
theorem x_mod (ha : SE X a ma) (hb : SE X b mb) : SE X (.BinOp a .Mod b pos) (m2 modD ma mb) := se_op op_mod srv_mod ha hb
theorem x_pow (ha : SE X a ma) (hb : SE X b mb) : SE X (.BinOp a .Pow b pos) (m2 powD ma mb) := se_op op_pow srv_pow ha hb
theorem x_neg (ha : SE X a ma) : SE X (.UnaryOp .USub a pos) (m1 negD ma) := se_un un_neg srv_neg ha
theorem oEq (c : XC k X) : OpR X (compareOp .Eq) (rEq' X.K) := OpR.or op_eq (op_eqD (by have := c.xr.room.un; omega))
theorem oNe (c : XC k X) : OpR X (compareOp .NotEq) (rNe' X.K) := OpR.or op_ne (op_neD (by have := c.xr.room.un; omega))
theorem x_eq (c : XC k X) (ha : SE X a ma) (hb : SE X b mb) : SE X (.Compare a [.Eq] [b] pos) (m2 eqD ma mb) := se_cmp (oEq c) srv_eq ha hb (nomark _)
theorem x_ne (c : XC k X) (ha : SE X a ma) (hb : SE X b mb) : SE X (.Compare a [.NotEq] [b] pos) (m2 neD ma mb) := se_cmp (oNe c) srv_ne ha hb (nomark _)
theorem x_lt (c : XC k X) (ha : SE X a ma) (hb : SE X b mb) : SE X (.Compare a [.Lt] [b] pos) (m2 ltD ma mb) := se_cmp (op_lt' c.xr) srv_lt ha hb (nomark _)
theorem x_le (ha : SE X a ma) (hb : SE X b mb) : SE X (.Compare a [.LtE] [b] pos) (m2 leD ma mb) := se_cmp op_le srv_le ha hb (nomark _)
theorem x_gt (ha : SE X a ma) (hb : SE X b mb) : SE X (.Compare a [.Gt] [b] pos) (m2 gtD ma mb) := se_cmp op_gt srv_gt ha hb (nomark _)
theorem x_ge (ha : SE X a ma) (hb : SE X b mb) : SE X (.Compare a [.GtE] [b] pos) (m2 geD ma mb) := se_cmp op_ge srv_ge ha hb (nomark _)
theorem x_in (c : XC (k + 1) X) (ha : SE X a ma) (hb : SE X b mb) (hm : behindInMarks .In b = false := by rfl) : SE X (.Compare a [.In] [b] pos) (m2 inD ma mb) := se_cmp (op_mem c.xr) srv_in ha hb hm
theorem x_notin (c : XC (k + 1) X) (ha : SE X a ma) (hb : SE X b mb) (hm : behindInMarks .NotIn b = false := by rfl) : SE X (.Compare a [.NotIn] [b] pos) (m2 notinD ma mb) := se_cmp (op_notmem c.xr) srv_notin ha hb hm
theorem x_is (ha : SE X a ma) (hb : SE X b mb) : SE X (.Compare a [.Is] [b] pos) (m2 isD ma mb) := se_cmp op_is' srv_is ha hb (nomark _)
theorem x_isnot (ha : SE X a ma) (hb : SE X b mb) : SE X (.Compare a [.IsNot] [b] pos) (m2 isnotD ma mb) := se_cmp op_isnot' srv_isnot ha hb (nomark _)
/-- .. as tests -/
theorem t_eq (c : XC k X) (ha : SE X a ma) (hb : SE X b mb) : ST X (.Compare a [.Eq] [b] pos) (asB (m2 eqD ma mb)) := st_cmp (oEq c) srv_eq ha hb (nomark _)
theorem t_ne (c : XC k X) (ha : SE X a ma) (hb : SE X b mb) : ST X (.Compare a [.NotEq] [b] pos) (asB (m2 neD ma mb)) := st_cmp (oNe c) srv_ne ha hb (nomark _)
theorem t_lt (c : XC k X) (ha : SE X a ma) (hb : SE X b mb) : ST X (.Compare a [.Lt] [b] pos) (asB (m2 ltD ma mb)) := st_cmp (op_lt' c.xr) srv_lt ha hb (nomark _)
theorem t_le (ha : SE X a ma) (hb : SE X b mb) : ST X (.Compare a [.LtE] [b] pos) (asB (m2 leD ma mb)) := st_cmp op_le srv_le ha hb (nomark _)
theorem t_gt (ha : SE X a ma) (hb : SE X b mb) : ST X (.Compare a [.Gt] [b] pos) (asB (m2 gtD ma mb)) := st_cmp op_gt srv_gt ha hb (nomark _)
theorem t_ge (ha : SE X a ma) (hb : SE X b mb) : ST X (.Compare a [.GtE] [b] pos) (asB (m2 geD ma mb)) := st_cmp op_ge srv_ge ha hb (nomark _)
theorem t_in (c : XC (k + 1) X) (ha : SE X a ma) (hb : SE X b mb) (hm : behindInMarks .In b = false := by rfl) : ST X (.Compare a [.In] [b] pos) (asB (m2 inD ma mb)) := st_cmp (op_mem c.xr) srv_in ha hb hm
theorem t_notin (c : XC (k + 1) X) (ha : SE X a ma) (hb : SE X b mb) (hm : behindInMarks .NotIn b = false := by rfl) : ST X (.Compare a [.NotIn] [b] pos) (asB (m2 notinD ma mb)) := st_cmp (op_notmem c.xr) srv_notin ha hb hm
theorem t_is (ha : SE X a ma) (hb : SE X b mb) : ST X (.Compare a [.Is] [b] pos) (asB (m2 isD ma mb)) := st_cmp op_is' srv_is ha hb (nomark _)
theorem t_isnot (ha : SE X a ma) (hb : SE X b mb) : ST X (.Compare a [.IsNot] [b] pos) (asB (m2 isnotD ma mb)) := st_cmp op_isnot' srv_isnot ha hb (nomark _)
theorem t_any (ha : SE X a ma) (he : ∀ whole, isTrue a X.env whole = (do let v ← whole; standAt a.pos; holding [v] (truthy v)) := by intro _; rfl) : ST X a (asT ma) := st_truth ha he
/-- a op b op' c -/
theorem x_chain {op op' : CmpOp} {r r' : R2} {f g : F2} (ho : OpR X (compareOp op) r) (ho' : OpR X (compareOp op') r') (hf : Srv2 (gm X) f r) (hg : Srv2 (gm X) g r') (ha : SE X a ma) (hb : SE X b mb) (hd : SE X d md) (hm : lastMarks [op, op'] [b, d] = false := by with_unfolding_all rfl) :
    SE X (.Compare a [op, op'] [b, d] pos) (mCh f g ma mb md) := ⟨fun W tk => PE.imp (pe_chain ho ho' (ha.run W tk) (hb.run W tk) (hd.run W tk) hm) fun σ H Q h => tChain_of (op := op) (op' := op') hf hg h⟩
theorem t_chain {op op' : CmpOp} {r r' : R2} {f g : F2} (ho : OpR X (compareOp op) r) (ho' : OpR X (compareOp op') r') (hf : Srv2 (gm X) f r) (hg : Srv2 (gm X) g r') (ha : SE X a ma) (hb : SE X b mb) (hd : SE X d md) (hm : lastMarks [op, op'] [b, d] = false := by with_unfolding_all rfl) :
    ST X (.Compare a [op, op'] [b, d] pos) (asB (mCh f g ma mb md)) := ⟨fun W tk => PT.imp (pt_chain ho ho' (ha.run W tk) (hb.run W tk) (hd.run W tk) hm) fun σ H Q h => tChain_of (op := op) (op' := op') hf hg (tTest_of h)⟩
/-- a[b] -/
theorem x_ix (c : XC k X) (ha : SE X a ma) (hb : SE X b mb) (hs : PlainIx b := by intro _ _; rfl) : SE X (.Subscript a b pos) (m2 ixD ma mb) := se_ix (ix_all c.xr) srv_ix ha hb hs
/-! ### .. calls of built-ins -/
variable {p : Pos}
theorem x_len (hm : X.mg "len" = none) (ha : SE X a ma) (hg : Gl X "len" := by rfl) (hs : starEach [a] X.env = (false, eval a X.env) :: starEach [] X.env := by rfl) : SE X (.Call (.Name "len" p) [a] [] pos) (mF (f1 lenD) [ma]) :=
  se_callB call_len' srv_len PySem.boot_len hg hm (sa_cons ha sa_nil hs) (by decide) (by decide) hs (by rfl)
theorem x_all (c : XC k X) (hm : X.mg "all" = none) (ha : SE X a ma) (hg : Gl X "all" := by rfl) (hs : starEach [a] X.env = (false, eval a X.env) :: starEach [] X.env := by rfl) : SE X (.Call (.Name "all" p) [a] [] pos) (mF (f1 allD) [ma]) :=
  se_callB (cr_all c.calm) srv_all (by first | exact PySem.boot_all | rfl) hg hm (sa_cons ha sa_nil hs) (by decide) (by decide) hs (by rfl)
theorem x_any (c : XC k X) (hm : X.mg "any" = none) (ha : SE X a ma) (hg : Gl X "any" := by rfl) (hs : starEach [a] X.env = (false, eval a X.env) :: starEach [] X.env := by rfl) : SE X (.Call (.Name "any" p) [a] [] pos) (mF (f1 anyD) [ma]) :=
  se_callB (cr_any c.calm) srv_any (by first | exact PySem.boot_any | rfl) hg hm (sa_cons ha sa_nil hs) (by decide) (by decide) hs (by rfl)
theorem x_repr (c : XC k X) (hm : X.mg "repr" = none) (ha : SE X a ma) (hg : Gl X "repr" := by rfl) (hs : starEach [a] X.env = (false, eval a X.env) :: starEach [] X.env := by rfl) : SE X (.Call (.Name "repr" p) [a] [] pos) (mF (f1 reprD) [ma]) :=
  se_callB (call_repr c.xr) srv_repr (by first | exact PyProof.Rows.boot_repr | exact PyProof.Rows.Boot.repr | rfl) hg hm (sa_cons ha sa_nil hs) (by decide) (by decide) hs (by rfl)
theorem x_int (hm : X.mg "int" = none) (ha : SE X a ma) (hg : Gl X "int" := by rfl) (hs : starEach [a] X.env = (false, eval a X.env) :: starEach [] X.env := by rfl) : SE X (.Call (.Name "int" p) [a] [] pos) (mF (f1 intD) [ma]) :=
  se_callTy call_int' srv_int (by first | exact PyProof.Rows.boot_int | rfl) hg hm (sa_cons ha sa_nil hs) (by decide) (by decide) hs (by rfl)
theorem x_list {mk : List D → Mem → Res D} (hk : MkOk mk) (hm : X.mg "list" = none) (ha : SE X a ma) (hg : Gl X "list" := by rfl) (hs : starEach [a] X.env = (false, eval a X.env) :: starEach [] X.env := by rfl) : SE X (.Call (.Name "list" p) [a] [] pos) (mF (f1 (listD mk)) [ma]) :=
  se_callTy call_list_of (srv_list hk) (by first | exact PyProof.Rows.boot_list | rfl) hg hm (sa_cons ha sa_nil hs) (by decide) (by decide) hs (by rfl)
theorem x_tuple (hm : X.mg "tuple" = none) (ha : SE X a ma) (hg : Gl X "tuple" := by rfl) (hs : starEach [a] X.env = (false, eval a X.env) :: starEach [] X.env := by rfl) : SE X (.Call (.Name "tuple" p) [a] [] pos) (mF (f1 tupleD) [ma]) :=
  se_callTy call_tuple_of srv_tuple (by first | exact PyProof.Rows.boot_tuple | rfl) hg hm (sa_cons ha sa_nil hs) (by decide) (by decide) hs (by rfl)
theorem x_append (ho : SE X a ma) (ha : SE X b mb) {apos cpos : Pos} (hbase : attributeBase a "append" X.env (eval a X.env) = eval a X.env := by rfl)
    (hfew : ((backTo cpos (starEach [b] X.env)).all (fun x => !x.1) && (backToKw cpos (keywordEach [] X.env)).all (fun x => x.1.isSome)
      && decide ([b].length + ([] : List Keyword).length + (if ([] : List Keyword).isEmpty then 0 else 1) < 30)) = true := by rfl)
    (hline : (apos.endLine == cpos.line) = true := by rfl) (hs : starEach [b] X.env = (false, eval b X.env) :: starEach [] X.env := by rfl) (hplain : (backTo cpos (starEach [] X.env)).any (·.1) = false := by rfl) :
    SE X (.Call (.Attribute a "append" apos) [b] [] cpos) (mBM "list" appendD ma [mb]) :=
  se_bm PySem.F.plainAttrs_list PySem.F.slot_list_append PySem.F.type_list_append mt_append srv_append ho (sa_cons ha sa_nil hs) hbase hfew hline hs hplain
end
end VI
set_option maxHeartbeats 4000000
namespace VI
open PySem PySem.Spec PyProof.Rows L2

/-! ### names of the module -/
section
variable {X : Cx} {a b e : Expr} {ma mb me : ME} {pos : Pos} {x : Str} {k : Nat}
theorem se_constI {i : Int} (h : ∃ t, X.mg x = some (.int i t)) (hg : Gl X x) (hdb : (x == ("__debug__" : Str)) = false := by decide) : SE X (.Name x pos) (mC (.int i)) := by
  obtain ⟨t, h⟩ := h
  exact se_glob hg h (v := .int i) ⟨t, rfl⟩ (fun _ _ => by simp [Rv]) hdb
theorem se_constS {i : Str} (h : ∃ t, X.mg x = some (.str i t)) (hg : Gl X x) (hdb : (x == ("__debug__" : Str)) = false := by decide) : SE X (.Name x pos) (mC (.str i)) := by
  obtain ⟨t, h⟩ := h
  exact se_glob hg h (v := .str i) ⟨t, rfl⟩ (fun _ _ => by simp [Rv]) hdb
theorem se_glD {st : Stmt} (h : DefT X.K X.mg x st) (hg : Gl X x) (hdb : (x == ("__debug__" : Str)) = false := by decide) : SE X (.Name x pos) (mC (.gl x)) := by
  obtain ⟨f, fd, h, _⟩ := h
  exact se_gl hg h hdb
theorem Boot_int : bootBuiltins "int" = some (.type "int") := PyProof.Rows.boot_int
theorem Boot_bool : bootBuiltins "bool" = some (.type "bool") := PyProof.Rows.boot_bool
theorem Boot_str : bootBuiltins "str" = some (.type "str") := PyProof.Rows.boot_str
theorem Boot_list : bootBuiltins "list" = some (.type "list") := PyProof.Rows.boot_list
theorem Boot_tuple : bootBuiltins "tuple" = some (.type "tuple") := by decide +kernel
theorem Boot_dict : bootBuiltins "dict" = some (.type "dict") := by decide +kernel
theorem Boot_ValueError : bootBuiltins "ValueError" = some (.type "ValueError") := by decide +kernel
theorem xpar (i j : Nat) (c : XC k X) {y : Str} {px py pt : Pos} {kt k2 : Nat} {pt2 : Pos} (ha : SE X a ma) (hb : SE X b mb) (hi : X.N[i]? = some x := by rfl) (hj : X.N[j]? = some y := by rfl) (hij : i ≠ j := by decide)
    (hx : X.env.scope.names.lookup x = some .local := by rfl) (hy : X.env.scope.names.lookup y = some .local := by rfl)
    (hw : swappedStores [.Tuple [.Name x px, .Name y py] kt pt] (.Tuple [a, b] k2 pt2) X.env = pure (some [x, y]) := by rfl)
    (hs : swapsWithSole [.Tuple [.Name x px, .Name y py] kt pt] (.Tuple [a, b] k2 pt2) pos.line X.env = pure false := by rfl)
    (h1 : starEach [a, b] X.env = (false, eval a X.env) :: starEach [b] X.env := by rfl) (h2 : starEach [b] X.env = (false, eval b X.env) :: starEach [] X.env := by rfl) :
    SS X (.Assign [.Tuple [.Name x px, .Name y py] kt pt] (.Tuple [a, b] k2 pt2) pos) (sPar i j ma mb) := s_par c.calm c.nd hi hj hij hx hy ha hb hw hs h1 h2
end

section
variable {X : Cx} {elt tg iter : Expr} {ifs : List Expr} {scope : Scope} {own : List (Str × Nat)} {pos : Pos} {mi : ML} {g : MG} {t : MB} {m : ME} {us : List Nat} {k : Nat} {fin : Mem → Mem → Res D}
theorem s_setLcX (i : Nat) {y : Str} {py spos : Pos} (hf : FinOk fin) (c : XC k X) (hi : SI X tg iter mi) (ok : blkC X.N X.env.scope scope own = true) (hus : ∀ j, j ∈ us → j ∈ own.map (·.2))
    (hg : ∀ (s : Shared) (H : Hp) (C : Addr) (cl : List (Str × Addr)) (fp : List Addr), XC k (X.blk s H scope (compEnvC scope cl C X.env) fp) → SG (X.blk s H scope (compEnvC scope cl C X.env) fp) tg us g)
    (ht : ∀ (s : Shared) (H : Hp) (C : Addr) (cl : List (Str × Addr)) (fp : List Addr), XC k (X.blk s H scope (compEnvC scope cl C X.env) fp) → STs (X.blk s H scope (compEnvC scope cl C X.env) fp) ifs t)
    (he : ∀ (s : Shared) (H : Hp) (C : Addr) (cl : List (Str × Addr)) (fp : List Addr), XC k (X.blk s H scope (compEnvC scope cl C X.env) fp) → SE (X.blk s H scope (compEnvC scope cl C X.env) fp) elt m)
    (hy : X.N[i]? = some y := by rfl) (hyl : X.env.scope.names.lookup y = some .local := by rfl) (hsw : swapsWith (.ListComp elt [⟨tg, iter, ifs, 0⟩] scope pos) (some (.Name y py)) spos.line X.env = pure true := by rfl)
    (hs : ∀ x, foldedSetIterable iter X.env x = pure x := by intro _; rfl) : SS X (.Assign [.Name y py] (.ListComp elt [⟨tg, iter, ifs, 0⟩] scope pos) spos) (sSet i (mLC fin mi g t m (own.map (·.2)))) :=
  s_setLc hf c hy hyl hsw hi ok hus hg ht he hs
end

/-! ### facts of classes, by booleans -/
def nsB (K : PySem.W.Frag) (x : Str) : Bool := dB (PySem.W.nsIn K mainGlobals x) (some (some (.ref (He.ga K x))))
def oexB (K : PySem.W.Frag) (C : Addr) : Bool := match K.lookup C with
  | some ⟨.type "type", _, .cls cd, sl⟩ => (match cd.mro, sl.toList with
    | .ref C' :: bm, [_, _, _, _, some (.builtin n), _] => C' == C && (n == "ValueError.__new__" && (!cd.hasDel && (cd.hasDict && PySem.HandSPX.refsVE bm)))
    | _, _ => false)
  | _ => false
theorem oexB_ok {K : PySem.W.Frag} {C : Addr} (q : oexB K C = true) : ∃ nm q N bs bm sn sub ab col dd k0 k1 k2 k3 k5, K.lookup C = some (excClassObj nm q C N bs bm true sn sub ab col dd k0 k1 k2 k3 k5 "ValueError.__new__") ∧ PySem.HandSPX.refsVE bm = true := by
  unfold oexB at q
  split at q
  · rename_i dd cd sl ho
    split at q
    · rename_i C' bm k0 k1 k2 k3 n k5 hm hs
      simp only [Bool.and_eq_true, beq_iff_eq, Bool.not_eq_true'] at q
      obtain ⟨rfl, rfl, hdel, hdict, hr⟩ := q
      obtain ⟨nm, bs, mro, ns, qn, hd, sn, sub, ab, col, del⟩ := cd
      dsimp only at hm hdel hdict
      subst hm hdel hdict
      obtain ⟨l⟩ := sl
      simp only at hs
      subst hs
      exact ⟨nm, qn, ns, bs, bm, sn, sub, ab, col, dd, k0, k1, k2, k3, k5, ho, hr⟩
    · cases q
  · cases q
/-- a class of exceptions with its own __init__, that sets fs -/
def ClsT (K : PySem.W.Frag) (mg : Str → Option Value) (c qual : Str) (st : Stmt) (fs : List Str) : Prop :=
  ∃ C fI fd, mg c = some (.ref C) ∧ OexC K C ∧ PySem.W.findIn K (.ref C) "__init__" = some (some (.ref fI)) ∧ PySem.W.typeIn K (.ref fI) = some (.type "function") ∧ Fun K "__init__" qual st fI fd ∧ ∀ f ∈ fs, PySem.W.findIn K (.ref C) f = some none
def clsB (K : PySem.W.Frag) (c : Str) (fs : List Str) : Bool := nsB K c && (oexB K (He.ga K c) && (dB (PySem.W.findIn K (.ref (He.ga K c)) "__setattr__") (some (some (.builtin "object.__setattr__"))) && (dB (PySem.W.subIn K (.ref (He.ga K c)) (.type "BaseException")) (some true) &&
  (dB (PySem.W.typeIn K (.ref (He.ga K c))) (some (.type "type")) && (PySem.W.keepIn K (.ref (He.ga K c)) && (dB (PySem.W.findIn K (.ref (He.ga K c)) "__init__") (some (some (.ref (He.ma K (He.ga K c) "__init__")))) &&
  (dB (PySem.W.typeIn K (.ref (He.ma K (He.ga K c) "__init__"))) (some (.type "function")) && fs.all fun f => dB (PySem.W.findIn K (.ref (He.ga K c)) f) (some none))))))))
section
variable {K : PySem.W.Frag} {h : Heap} {mg : Str → Option Value}
theorem nsB_ok (X : K.In h) (G : h.Ns mainGlobals mg) {x : Str} (c : nsB K x = true) : mg x = some (.ref (He.ga K x)) := PySem.W.mg_of X G (dB_ok c)
theorem fun_of_D {x qual : Str} {st : Stmt} {f : Addr} {fd : FuncData} (F : FunD K x qual (defArgs st) (defBody st) (defScope st) [] [] f fd) : Fun K x qual st f fd := by
  obtain ⟨oc, od, dV, kV, doc, pm, an, cdv, ct, osl, rfl, lk, hcd, hd, hk⟩ := F.ex
  rcases hd with ⟨_, rfl⟩ | ⟨n, _⟩
  · exact ⟨⟨oc, od, kV, doc, pm, an, cdv, ct, osl, rfl, lk, hcd⟩, F.kp⟩
  · exact absurd rfl n
theorem clsB_ok {c qual : Str} {st : Stmt} {fs : List Str} (X : K.In h) (G : h.Ns mainGlobals mg) (q : clsB K c fs = true)
    (F : ∃ fd, FunD K "__init__" qual (defArgs st) (defBody st) (defScope st) [] [] (He.ma K (He.ga K c) "__init__") fd) : ClsT K mg c qual st fs := by
  obtain ⟨fd, F⟩ := F
  unfold clsB at q
  simp only [Bool.and_eq_true, List.all_eq_true] at q
  obtain ⟨h0, h1, h2, h3, h4, h5, h6, h7, h8⟩ := q
  exact ⟨_, _, fd, nsB_ok X G h0, ⟨oexB_ok h1, dB_ok h2, dB_ok h3, dB_ok h4, h5⟩, dB_ok h6, dB_ok h7, fun_of_D F, fun f hf => dB_ok (h8 f hf)⟩
/-- the def's code object is one of those with a table -/
def lamB (K : PySem.W.Frag) (x : Str) : Bool := match K.lookup (He.fAd K (x, none)) with
  | some ⟨_, _, .func fd, _⟩ => (match fd.code with
    | .ref c => (codeT K).any fun t => t.1 == c && t.2.2 == x ++ ".<locals>." ++ "<lambda>"
    | _ => false)
  | _ => false
theorem lamB_ok {x : Str} {oc : Value} {od : Option Addr} {fd : FuncData} {osl : Array (Option Value)} (q : lamB K x = true) (lk : K.lookup (He.fAd K (x, none)) = some ⟨oc, od, .func fd, osl⟩) : LamOk K x fd.code := by
  unfold lamB at q
  rw [lk] at q
  simp only at q
  split at q
  · rename_i c e
    obtain ⟨t, h1, h2⟩ := List.any_eq_true.mp q
    simp only [Bool.and_eq_true, beq_iff_eq] at h2
    obtain ⟨c', P, s⟩ := t
    obtain ⟨h2, h3⟩ := h2
    simp only at h2 h3
    subst h2 h3
    exact ⟨c', P, e, h1⟩
  · cases q
theorem defT_of {x : Str} {st : Stmt} (X : K.In h) (G : h.Ns mainGlobals mg) (c : (He.Fa.glo x).ok K = true) (q : lamB K x = true) (F : ∃ fd, FunD K x x (defArgs st) (defBody st) (defScope st) [] [] (He.fAd K (x, none)) fd) : DefT K mg x st := by
  obtain ⟨fd, F⟩ := F
  have F2 := fun_of_D F
  obtain ⟨oc, od, kV, doc, pm, an, cdv, ct, osl, _, lk, _⟩ := F2.ex
  exact ⟨_, fd, He.glo_ok X G c, F2, lamB_ok q lk⟩
theorem lamsB_at {xs : List Str} {x : Str} (q : (xs.all fun x => lamB K x) = true) (i : Nat) (h : xs[i]? = some x := by rfl) : lamB K x = true := List.all_eq_true.mp q x (List.mem_of_getElem? h)
/-! #### asked for -/
def xosB (K : PySem.W.Frag) (cs : List Str) : Bool := cs.all fun c => nsB K c && xoFB K (He.ga K c)
theorem xos_at {cs : List Str} {c : Str} (X : K.In h) (G : h.Ns mainGlobals mg) (q : xosB K cs = true) (hc : c ∈ cs) : mg c = some (.ref (He.ga K c)) ∧ XoF K (He.ga K c) := by
  have z := List.all_eq_true.mp q c hc
  simp only [Bool.and_eq_true] at z
  exact ⟨nsB_ok X G z.1, xoFB_ok z.2⟩
def xoAtB (K : PySem.W.Frag) (f : Str) (cs : List Str) : Bool := cs.all fun c => dB (PySem.W.findIn K (.ref (He.ga K c)) f) (some none)
theorem xoAtB_ok {f : Str} {cs ds : List Str} (X : K.In h) (G : h.Ns mainGlobals mg) (q : xosB K ds = true) (p : xoAtB K f cs = true) (s : (cs.all fun c => decide (c ∈ ds)) = true := by decide +kernel) : XoAt ⟨K, mg⟩ f cs := fun c hc => by
  have hd : c ∈ ds := of_decide_eq_true (List.all_eq_true.mp s c hc)
  obtain ⟨h1, h2⟩ := xos_at X G q hd
  exact ⟨_, h1, h2, dB_ok (List.all_eq_true.mp p c hc)⟩
theorem mem_of_lookup {α : Type} : ∀ {l : List (Str × α)} {x : Str} {b : α}, l.lookup x = some b → (x, b) ∈ l
  | [], x, b, e => by cases e
  | (y, c) :: l, x, b, e => by
    unfold List.lookup at e
    split at e
    · rename_i hb
      cases e
      rw [beq_iff_eq] at hb
      subst hb
      exact List.mem_cons_self
    · exact List.mem_cons_of_mem _ (mem_of_lookup e)
def xoTabB (K : PySem.W.Frag) (x : Str) (tab : List (Str × Bool)) : Bool := nsB K x && tab.all fun p => dB (PySem.W.kitOne K (.ref (He.ga K p.1)) (.ref (He.ga K x))) (some p.2)
theorem xoTabB_ok {x : Str} {tab : List (Str × Bool)} {ds : List Str} (X : K.In h) (G : h.Ns mainGlobals mg) (q : xosB K ds = true) (p : xoTabB K x tab = true) (s : (tab.all fun c => decide (c.1 ∈ ds)) = true := by decide +kernel) : XoTab ⟨K, mg⟩ x tab := by
  unfold xoTabB at p
  simp only [Bool.and_eq_true] at p
  refine ⟨_, nsB_ok X G p.1, fun c b e => ?_⟩
  have m := mem_of_lookup e
  obtain ⟨h1, h2⟩ := xos_at X G q (of_decide_eq_true (List.all_eq_true.mp s _ m))
  exact ⟨_, h1, h2, dB_ok (List.all_eq_true.mp p.2 _ m)⟩
def xoTabTB (K : PySem.W.Frag) (T : String) (tab : List (Str × Bool)) : Bool := tab.all fun p => dB (PySem.W.kitOne K (.ref (He.ga K p.1)) (.type T)) (some p.2)
theorem xoTabTB_ok {T : String} {tab : List (Str × Bool)} {ds : List Str} (X : K.In h) (G : h.Ns mainGlobals mg) (q : xosB K ds = true) (p : xoTabTB K T tab = true) (s : (tab.all fun c => decide (c.1 ∈ ds)) = true := by decide +kernel) : XoTabT ⟨K, mg⟩ T tab := by
  refine fun c b e => ?_
  have m := mem_of_lookup e
  obtain ⟨h1, h2⟩ := xos_at X G q (of_decide_eq_true (List.all_eq_true.mp s _ m))
  exact ⟨_, h1, h2, dB_ok (List.all_eq_true.mp p _ m)⟩
end

/-! ### __init__ -/
section
variable {P : Program} {w : World} {K : PySem.W.Frag} {mg : Str → Option Value} {base : Heap} {c qual f g : Str} {st : Stmt}
theorem mkS_1 {N : List Str} (T : ClsT K mg c qual st [f]) (hN : N = [("self" : Str), f]) (S : FnScope N [("self" : Str), f] (defScope st))
    (hb : ∀ (kV doc pm : Value) (an : Option Addr) (cdv ct : Value) (us : List Value), us.length = [("self" : Str), f].length → bindArgs (PySem.W.fnOf "__init__" qual (defArgs st) (defBody st) (defScope st) .none kV doc pm an cdv ct) ⟨us, []⟩ = pure ([("self" : Str), f].zip us))
    (body : ∀ (fI : Addr) (cdv : Value) (A : Around) (outer : List PySem.Env) (s : Shared) (H : Hp) (E : XK), PSs (cxOf CX0 P w K mg base N qual (defScope st) fI cdv A outer s H E).nox (defBody st) (tOst K f (tVar 0) (tVar 1))) : MkS P w K mg base 1 c [f] := by
  obtain ⟨C, fI, fd, hm, O, iC, tI, F, no⟩ := T
  subst hN
  refine ⟨C, fI, fd, hm, O, iC, tI, F.binds hb, F.ok S (fun vs H Q E h => ?_) (fun cdv A outer s H vs Q E hr h => ⟨_, body fI cdv A outer s H E, ?_⟩)⟩
  · obtain ⟨a, ws, rfl, hl, _⟩ := h
    simp [hl]
  · obtain ⟨a, ws, rfl, hl, ha, q⟩ := h
    match ws, hl with
    | [y], _ =>
      refine ⟨y, rfl, .ref a, rfl, a, C, rfl, O, no f (by simp), .inl ⟨ha, fun dx nd ne => q dx _ nd ne (fun b h1 h2 => by rw [upd_ne h2, upd_ne h1]) upd_same ?_⟩⟩
      rw [upd_ne ne, upd_same]; rfl
theorem mkS_2 {N : List Str} (T : ClsT K mg c qual st [f, g]) (hN : N = [("self" : Str), f, g]) (S : FnScope N [("self" : Str), f, g] (defScope st))
    (hb : ∀ (kV doc pm : Value) (an : Option Addr) (cdv ct : Value) (us : List Value), us.length = [("self" : Str), f, g].length → bindArgs (PySem.W.fnOf "__init__" qual (defArgs st) (defBody st) (defScope st) .none kV doc pm an cdv ct) ⟨us, []⟩ = pure ([("self" : Str), f, g].zip us))
    (body : ∀ (fI : Addr) (cdv : Value) (A : Around) (outer : List PySem.Env) (s : Shared) (H : Hp) (E : XK), PSs (cxOf CX0 P w K mg base N qual (defScope st) fI cdv A outer s H E).nox (defBody st) (tSeq (tOst K f (tVar 0) (tVar 1)) (tOst K g (tVar 0) (tVar 2)))) : MkS P w K mg base 1 c [f, g] := by
  obtain ⟨C, fI, fd, hm, O, iC, tI, F, no⟩ := T
  subst hN
  refine ⟨C, fI, fd, hm, O, iC, tI, F.binds hb, F.ok S (fun vs H Q E h => ?_) (fun cdv A outer s H vs Q E hr h => ⟨_, body fI cdv A outer s H E, ?_⟩)⟩
  · obtain ⟨a, ws, rfl, hl, _⟩ := h
    simp [hl]
  · obtain ⟨a, ws, rfl, hl, ha, q⟩ := h
    match ws, hl with
    | [y, z], _ =>
      refine ⟨y, rfl, .ref a, rfl, a, C, rfl, O, no f (by simp), .inl ⟨ha, fun dx nd ne => ?_⟩⟩
      refine ⟨z, rfl, .ref a, rfl, a, C, rfl, O, no g (by simp), .inr ⟨dx, [(f, y)], upd_same, by rw [upd_ne ne, upd_same], by simp, q dx _ nd ne (fun b h1 h2 => by rw [upd_ne h1, upd_ne h2, upd_ne h1]) (by rw [upd_ne (Ne.symm ne), upd_same]) ?_⟩⟩
      rw [upd_same]; rfl
/-! ### the last step -/
theorem law_ofD {k : Nat} {x : Str} {st : Stmt} {h : Heap} {fa : Addr} {F : FL} (T : DefT K mg "law" st) (hmg : mg ("law" : Str) = some (.ref fa)) (KX : K.In h)
    (hb : ∀ (kV doc pm : Value) (an : Option Addr) (cdv ct : Value) (us : List Value), us.length = ([x] : List Str).length → bindArgs (PySem.W.fnOf "law" "law" (defArgs st) (defBody st) (defScope st) .none kV doc pm an cdv ct) ⟨us, []⟩ = pure (([x] : List Str).zip us))
    (math : ∀ ns : List Int, ns.length ≤ 63 → ∃ st, F [.fz (ns.map .int)] [] = .ok (.bl true) st) (TF : TabF K h) (d : ∀ base : Heap, TabAll K mg base → DefS P w K mg base k "law" [x] F) :
    ∃ (K' : PySem.W.Frag) (fd : FuncData) (F' : FL), K'.In h ∧ TabF K' h ∧ (∀ (s : Shared) (u : Value), BindsTo s fd ⟨[u], []⟩ [(x, u)]) ∧ (∀ ns : List Int, ns.length ≤ 63 → ∃ st, F' [.fz (ns.map .int)] [] = .ok (.bl true) st) ∧
        ∀ base : Heap, K'.In base → base.Ns mainGlobals mg → TabAll K' mg base → FnS P w K' mg base k fa fd [x] F' := by
  obtain ⟨f, fd, hm, FN, _⟩ := T
  rw [hmg] at hm
  cases hm
  obtain ⟨oc, od, kV, doc, pm, an, cdv, ct, osl, rfl, lk, _⟩ := FN.ex
  refine ⟨K, _, F, KX, TF, fun s u => .of_eq (hb kV doc pm an cdv ct [u] rfl), math, fun base _ _ B => ?_⟩
  obtain ⟨f2, fd2, hm2, _, ⟨oc2, od2, osl2, lk2⟩, _, z⟩ := d base B
  rw [hmg] at hm2
  cases hm2
  rw [lk] at lk2
  cases lk2
  exact z
end

/-! ### C() of a class without __init__ -/
def Cls0 (K : PySem.W.Frag) (mg : Str → Option Value) (c : Str) : Prop := ∃ C, mg c = some (.ref C) ∧ PySem.W.excIn K C He.veBase "ValueError.__new__" = true ∧ PySem.W.keepIn K (.ref C) = true
def cls0B (K : PySem.W.Frag) (c : Str) : Bool := nsB K c && (PySem.W.excIn K (He.ga K c) He.veBase "ValueError.__new__" && PySem.W.keepIn K (.ref (He.ga K c)))
theorem cls0B_ok {K : PySem.W.Frag} {h : Heap} {mg : Str → Option Value} {c : Str} (X : K.In h) (G : h.Ns mainGlobals mg) (q : cls0B K c = true) : Cls0 K mg c := by
  unfold cls0B at q
  simp only [Bool.and_eq_true] at q
  exact ⟨_, nsB_ok X G q.1, q.2.1, q.2.2⟩
def mMk0 (c : Str) : ME := fun _ st => .ok (.loc st.length) (st ++ [.xo c []])
theorem se_mk0 {X : Cx} {x : Str} {p pos : Pos} {k : Nat} (T : Cls0 X.K X.mg x) (hr : XR k X) (hg : Gl X x) (hdb : (x == ("__debug__" : Str)) = false := by decide) : SE X (.Call (.Name x p) [] [] pos) (mMk0 x) := by
  obtain ⟨C, hm, q, kC⟩ := T
  refine ⟨fun W tk => ⟨fun pins s σ H Q I h => ?_⟩⟩
  obtain ⟨mp, st, ρ, R, E, P⟩ := h
  refine wpAny_Call_Name_kw (ld_glob I hg hm ?_ hdb)
  refine PySem.W.callWith_K0 I.kIn kC ?_
  obtain ⟨bm, N, nm, qn, bs, hdct, sn, sub, ab, col, dd, k0, k1, k2, k3, k5, mN, hC, hN, hni, T⟩ := exc_obj I.kIn q
  refine wpAny_call_exc_subT PySem.F.excBase_ValueError T hC hN hni (fun h' a hmk => ?_) (by show 0 ≤ sizeLine; omega)
  have hn : H a = none := I.hok.gone hmk.new
  obtain ⟨t, ht, _, _⟩ := hmk.there
  exact ⟨.ref a, upd H a (ExO (.ref C) a), I.laidN hmk.keeps hmk.new hn (exO_ok ht ⟨rfl, rfl⟩ rfl rfl rfl (show 4 < 6 by decide)), rfl, P _ _ (.ref a) (ext_cell hn) (R.push hn ⟨C, hm, .inl ⟨rfl, upd_same⟩⟩) (by simp only [Rv]; exact ⟨a, rfl, by rw [← R.len]; simp⟩)⟩
end VI
set_option maxHeartbeats 4000000
namespace VI
open PySem PySem.Spec PyProof.Rows L2

/-! ### try, clauses 'except C as n' -/
/-- what the clauses wish of an exception; slot i is n's -/
def wClauses (K : PySem.W.Frag) (i : Nat) (D : Ends) : List (Value × (Addr → Value → Option Addr → TS)) → WX
  | [] => fun _ _ _ _ => False
  | (c, ts) :: r => fun cls d σ H => ∃ b, PySem.W.exmOne K cls c = some b ∧ (b = true → ∀ a, H a = none → ts a cls d { nx := fun σ' H' => D.nx (σ'.set i none) H', rt := D.rt, bk := fun σ' H' => D.bk (σ'.set i none) H', ct := fun σ' H' => D.ct (σ'.set i none) H' } (σ.set i (some (.ref a))) H) ∧
      (b = false → wClauses K i D r cls d σ H)
inductive Clauses (X : Cx) (n : Str) : List ExceptHandler → List (Value × (Addr → Value → Option Addr → TS)) → Prop
  | nil : Clauses X n [] []
  | cons {x : Str} {c : Value} {ts : Addr → Value → Option Addr → TS} {b₀ : Stmt} {suite : List Stmt} {np pos' : Pos} {hds : List ExceptHandler} {l : List (Value × (Addr → Value → Option Addr → TS))} (hc : Names X x c)
      (hsu : ∀ (a : Addr) (oe : Obj) (cls : Value) (d : Option Addr) (pn : List (Addr × Obj)), Zc cls d oe → (∃ vs, oe.data = .fields vs) → PSs (X.suite a ((a, oe) :: pn)) (b₀ :: suite) (ts a cls d)) (r : Clauses X n hds l) :
      Clauses X n (.ExceptHandler (some (.Name x np)) (some n) (b₀ :: suite) pos' :: hds) ((c, ts) :: l)
section
variable {X : Cx} {n : Str} {i : Nat} {body : List Stmt} {h₀ : ExceptHandler} {hds : List ExceptHandler} {l : List (Value × (Addr → Value → Option Addr → TS))} {pos : Pos} {tb : WX → TS}
theorem ps_clauses (hs : X.stack = X.env :: X.outer) (hf : X.env.frame = some X.env.locals) (hN : X.N.Nodup) (hi : X.N[i]? = some n) (hln : X.env.kindOf n = some .local)
    (hb : ∀ (W : WX) (pn : List (Addr × Obj)) (xe : Value → Shared → Prop), Takes (X.tr pn xe) W → PassesOwn (model X.prog X.w) X.A X.env xe → PSs (X.tr pn xe) body (tb W))
    (hh : Clauses X n (h₀ :: hds) l) : PS X (.Try body (h₀ :: hds) [] [] pos) (fun D σ H => tb (wClauses X.K i D l) D σ H) := by
  refine ⟨fun pins s σ H D I h => ?_⟩
  have ok := I.ok
  have hfr : X.A.frames = some (X.env :: X.outer) := by rw [ok.frames, hs]
  have hloc : Loc X.env.scope n := .inl hln
  refine wpAny_Try_except ?_
  refine wpAny_mono ((hb (wClauses X.K i D l) (X.pn ++ pins) (fun e s₁ => wpAny (model X.prog X.w) X.A (noteFrame e X.env) (fun _ s₂ => wpAny (model X.prog X.w) X.A (setFlight e none) (fun _ s₃ =>
    wpAny (model X.prog X.w) X.A (handleBy e X.env (h₀ :: hds)) (SP X pins D) X.xe s₃) X.xe s₂) X.xe s₁) (fun u s' xx => ?_) PassesOwn.looking).run [] s σ H D (I.toTry _) h) (fun f s1 hsp => ?_) (fun e s1 he => he)
  · obtain ⟨a, B, sI, pins', σ', H', cls, d, rfl, J', nb, up, sky, na, os, ag, w⟩ := xx
    have J : Inv X pins σ' H' sI := J'.ofTry ok
    have sky' : Sky B (X.env :: X.outer) a (Zc cls d) X.env.locals s'.heap := by rw [← hs]; exact sky
    show wpAny (model X.prog X.w) X.A (noteFrame (.ref a) X.env) _ _ _
    refine Sky.land Zc.steady hfr hf sky' fun h3 fl3 up3 => ?_
    have J3 : Inv X pins σ' H' { s' with heap := h3 } := J.landed nb fl3.1 (up.trans up3) os ag
    obtain ⟨oe3, vs3, he3, hz3, hd3⟩ := fl3.there
    have notFr : ∀ {h : Heap} {o : Obj} {vs : Array Value}, h.FunFrames B (X.env :: X.outer) → h.get? a = some o → o.data = .fields vs → a ∉ frs (X.env :: X.outer) := fun {h o vs} ff e dd hm => by
      obtain ⟨_, o', e', hnf⟩ := ff.mem hm
      rw [e] at e'; cases e'
      exact hnf _ dd
    have nfr := notFr fl3.2.2.1 he3 hd3
    have nL : a ≠ X.env.locals := fun z => nfr (List.mem_filterMap.mpr ⟨X.env, List.mem_cons_self, by rw [hf, z]⟩)
    have nF : a ∉ X.fs := fun hm => by
      obtain ⟨e, he, q⟩ := List.mem_filterMap.mp hm
      exact nfr (List.mem_filterMap.mpr ⟨e, List.mem_cons_of_mem _ he, q⟩)
    have S3 := J3.suite he3 hd3 na nL nF
    have go : ∀ {hds' : List ExceptHandler} {l' : List (Value × (Addr → Value → Option Addr → TS))}, Clauses X n hds' l' → wClauses X.K i D l' cls d σ' H' →
        wpAny (model X.prog X.w) X.A (handleBy (.ref a) X.env hds') (SP X pins D) X.xe { s' with heap := h3 } := by
      intro hds' l' hk
      induction hk with
      | nil => intro w; exact w.elim
      | @cons x c ts b₀ suite np pos' hds2 l2 hc hsu r ih =>
        intro w
        obtain ⟨b, hb1, hyes, hno⟩ := w
        refine wpAny_handleBy_cons (codeAny_handlers_test ?_) (by intro q; cases q)
        have LT : PySem.W.Looks (model X.prog X.w) h3 (typeOf (.ref a)) cls := fun A Q E s k q => wpAny_typeOf_ref (k _ _ he3) (by rw [hz3.1]; exact q)
        have LM := PySem.W.exm_one (M := model X.prog X.w) (J3.kIn) LT hb1
        have test : ∀ {Q : Value → Shared → Prop} {E : Value → Shared → Prop}, Q c { s' with heap := h3 } → wpAny (model X.prog X.w) (X.A.mark (some (.ref a))) (eval (.Name x np) X.env) Q E { s' with heap := h3 } := fun {Q E} q => by
          obtain ⟨hg, hdbg, hm | ⟨hm, hv, hnn⟩⟩ := hc
          · exact ld_glob (X := X.suite a ((a, oe3) :: (X.pn ++ pins))) S3 hg hm q hdbg
          · exact ld_blt (X := X.suite a ((a, oe3) :: (X.pn ++ pins))) S3 hg hm hv q hnn hdbg
        refine test (LM.here ?_)
        cases b with
        | true =>
          refine codeAny_handlers_suite_as ?_
          refine HandSPX.lands_againZ fl3 fun h4 fl4 up4 => ?_
          have J4 : Inv X pins σ' H' { s' with heap := h4 } := J.landed nb fl4.1 ((up.trans up3).trans up4) os ag
          obtain ⟨oe4, vs4, he4, hz4, hd4⟩ := fl4.there
          have S4 := J4.suite he4 hd4 na nL nF
          refine store_ok (X := X.suite a ((a, oe4) :: (X.pn ++ pins))) (v := .ref a) S4 hN hi hloc rfl (fun s5 S5 => ?_) (.inr hln)
          refine wpAny_mono ((hsu a oe4 cls d (X.pn ++ pins) hz4 ⟨_, hd4⟩).run [] s5 _ H' _ S5 (hyes rfl a na)) (fun f s6 hsp => ?_) (fun _ _ z => False.elim z)
          have end_ : ∀ {σ6 : L2.St} {H6 : Hp} {Q : Shared → Prop}, Inv (X.suite a ((a, oe4) :: (X.pn ++ pins))) [] σ6 H6 s6 → (∀ s7, Inv X pins (σ6.set i none) H6 s7 → Q s7) →
              wpAny (model X.prog X.w) X.A (do bindName X.env n .none; unbindBehindTheSuite X.env n pos') (fun _ s7 => Q s7) X.xe s6 := fun {σ6 H6 Q} S6 hq => gone_ok (S6.unsuite ok) hN hi hln hq
          cases f with
          | next =>
            obtain ⟨σ6, H6, S6, q6⟩ := hsp
            exact end_ S6 fun s7 J7 => ⟨_, _, J7, q6⟩
          | brk =>
            obtain ⟨σ6, H6, S6, q6⟩ := hsp
            exact end_ S6 fun s7 J7 => ⟨_, _, J7, q6⟩
          | cont =>
            obtain ⟨σ6, H6, S6, q6⟩ := hsp
            exact end_ S6 fun s7 J7 => ⟨_, _, J7, q6⟩
          | ret u =>
            obtain ⟨v6, σ6, H6, S6, r6, q6⟩ := hsp
            exact end_ S6 fun s7 J7 => ⟨_, _, _, J7, r6, q6⟩
        | false =>
          show wpAny _ X.A (handleBy (.ref a) X.env hds2) _ _ _
          exact ih (hno rfl)
    exact go hh w
  · cases f with
    | next =>
      obtain ⟨σ', H', J', q⟩ := hsp
      exact wpAny_execs_nil ⟨σ', H', J'.ofTry ok, q⟩
    | brk =>
      obtain ⟨σ', H', J', q⟩ := hsp
      exact ⟨σ', H', J'.ofTry ok, q⟩
    | cont =>
      obtain ⟨σ', H', J', q⟩ := hsp
      exact ⟨σ', H', J'.ofTry ok, q⟩
    | ret u =>
      obtain ⟨v, σ', H', J', r, q⟩ := hsp
      exact ⟨v, σ', H', J'.ofTry ok, r, q⟩
end

/-! ### what a clause makes of the exception -/
theorem RelX.ext {Γ : Gm} {mp mp' : List Addr} {H H' : Hp} {e : Ex} {cls : Value} {dd : Option Addr} (h : RelX Γ mp H e cls dd) (x : Ext mp H mp' H') : RelX Γ mp' H' e cls dd := by
  obtain ⟨C, d, vs, h1, h2, h3, h4, h5, h6, h7⟩ := h
  obtain ⟨a1, a2⟩ := x.keep d _ h4 (fun _ q => by cases q) h5
  exact ⟨C, d, vs, h1, h2, h3, a1, a2, h6, RvL.ext x _ _ h7⟩
abbrev HX := Ex → Mem → Res D
abbrev W0x : XK := fun _ _ _ => False
/-- an expression of the clause for class c, the exception at a in slot i -/
structure SX (X : Cx) (i : Nat) (a : Addr) (c : Str) (cls : Value) (d : Option Addr) (e : Expr) (h : HX) : Prop where
  run : PE X e (fun σ H Q => ∃ mp st ex, RelM (gm X) mp H st ∧ RelX (gm X) mp H ex cls d ∧ ex.c = c ∧ σ[i]? = some (some (.ref a)) ∧ Post (gm X) mp H (h ex st) Q W0x)
def hArgs : List HX → Ex → Mem → Res (List D)
  | [], _, st => .ok [] st
  | h :: hs, ex, st => (h ex st).bind fun d st1 => (hArgs hs ex st1).bind fun ds st2 => .ok (d :: ds) st2
structure SXA (X : Cx) (i : Nat) (a : Addr) (c : Str) (cls : Value) (d : Option Addr) (es : List Expr) (hs : List HX) : Prop where
  run : PA X es (fun σ H Q => ∃ mp st ex, RelM (gm X) mp H st ∧ RelX (gm X) mp H ex cls d ∧ ex.c = c ∧ σ[i]? = some (some (.ref a)) ∧ PostL (gm X) mp H (hArgs hs ex st) Q W0x)
section
variable {X : Cx} {i : Nat} {a : Addr} {c : Str} {cls : Value} {d : Option Addr} {e : Expr} {es : List Expr} {h : HX} {hs : List HX} {pos : Pos}
theorem sx_str {x : Str} {j : Nat} : SX X i a c cls d (.Constant (.str x) j pos) (fun _ st => .ok (.str x) st) := ⟨PE.imp pe_str fun σ H Q ⟨mp, st, ex, R, rx, _, _, P⟩ => P mp H _ (Ext.refl _ _) R (by simp [Rv])⟩
theorem sxa_nil : SXA X i a c cls d [] [] := ⟨PA.imp pa_nil fun σ H Q ⟨mp, st, ex, R, rx, _, _, P⟩ => P mp H [] (Ext.refl _ _) R RvL.nil⟩
theorem sxa_cons (h1 : SX X i a c cls d e h) (h2 : SXA X i a c cls d es hs) (hst : starEach (e :: es) X.env = (false, eval e X.env) :: starEach es X.env := by rfl) : SXA X i a c cls d (e :: es) (h :: hs) :=
  ⟨PA.imp (pa_cons h1.run h2.run hst) fun σ H Q ⟨mp, st, ex, R, rx, ec, hi, P⟩ => by
    refine ⟨mp, st, ex, R, rx, ec, hi, ?_⟩
    unfold hArgs at P
    cases e1 : h ex st with
    | ok z st1 =>
      rw [e1] at P
      simp only [Res.ok_bind] at P
      intro mp1 H1 v x1 R1 r1
      refine ⟨mp1, st1, ex, R1, rx.ext x1, ec, hi, ?_⟩
      cases e2 : hArgs hs ex st1 with
      | ok ds st2 =>
        rw [e2] at P
        exact fun mp2 H2 vs x2 R2 r2 => P mp2 H2 (v :: vs) (x1.trans x2) R2 (RvL.cons (Rv.ext x2 _ _ r1) r2)
      | exc ex2 st2 => rw [e2] at P; exact fun mp2 H2 cls dd x2 R2 rx2 => P mp2 H2 cls dd (x1.trans x2) R2 rx2
      | bad => rw [e2] at P; exact P
    | exc ex2 st2 => rw [e1] at P; exact P
    | bad => rw [e1] at P; exact P⟩
def hTup (hs : List HX) : HX := fun ex st => (hArgs hs ex st).bind fun ds st1 => .ok (.tup ds) st1
theorem sx_tup {k : Nat} (h : SXA X i a c cls d es hs) (hl : hs.length ≤ 1000) : SX X i a c cls d (.Tuple es k pos) (hTup hs) := ⟨PE.imp (pe_tup h.run) fun σ H Q ⟨mp, st, ex, R, rx, ec, hi, P⟩ => by
  refine ⟨mp, st, ex, R, rx, ec, hi, ?_⟩
  unfold hTup at P
  cases e1 : hArgs hs ex st with
  | ok ds st1 =>
    rw [e1] at P
    have hlen : ∀ {hs : List HX} {st st1 : Mem} {ds : List D}, hArgs hs ex st = .ok ds st1 → ds.length = hs.length := by
      intro hs
      induction hs with
      | nil => intro st st1 ds e; cases e; rfl
      | cons h hs ih =>
        intro st st1 ds e
        unfold hArgs at e
        cases q : h ex st with
        | ok z st2 =>
          rw [q] at e
          simp only [Res.ok_bind] at e
          cases q2 : hArgs hs ex st2 with
          | ok zs st3 => rw [q2] at e; cases e; simp [ih q2]
          | exc _ _ => rw [q2] at e; cases e
          | bad => rw [q2] at e; cases e
        | exc _ _ => rw [q] at e; cases e
        | bad => rw [q] at e; cases e
    exact fun mp1 H1 vs x1 R1 r1 => ⟨line_le (by rw [← r1.length, hlen e1]; exact Nat.le_trans hl (by decide)), post_tup (PostG.ext (r := (Res.ok (D.tup ds) st1 : Res D)) P x1) R1 r1⟩
  | exc ex2 st2 => rw [e1] at P; exact P
  | bad => rw [e1] at P; exact P⟩
end
/-- e.f -/
def hFld (f : Str) : HX := fun ex st => match ex.fs.lookup f with
  | some z => .ok z st
  | none => .bad
theorem sx_fld {X : Cx} {i : Nat} {a : Addr} {c n f : Str} {cls : Value} {d : Option Addr} {oe : Obj} {pn : List (Addr × Obj)} {p pos : Pos} {fs : List Str} (T : XoAt (gm X) f fs) (hc : c ∈ fs) (hz : Zc cls d oe) (hf : ∃ vs, oe.data = .fields vs) (hN : X.N[i]? = some n) (hv : Vis X.env.scope n)
    (hd : (n == ("__debug__" : Str)) = false := by decide) (hcd : (n == ("__classdict__" : Str)) = false := by decide) (hb : attributeBase (.Name n p) f (X.suite a ((a, oe) :: pn)).env (eval (.Name n p) (X.suite a ((a, oe) :: pn)).env) = eval (.Name n p) (X.suite a ((a, oe) :: pn)).env := by rfl) :
    SX (X.suite a ((a, oe) :: pn)) i a c cls d (.Attribute (.Name n p) f pos) (hFld f) := by
  obtain ⟨C, hC, F, hno⟩ := T c hc
  refine ⟨PE.imp (pe_xf (X := X) (C := C) ⟨F.ga, F.gg, F.exC, F.hdC⟩ hno hz hf (pe_var (X := X.suite a ((a, oe) :: pn)) (pos := p) (i := i) hN hv hd hcd) hb) fun σ H Q ⟨mp, st, ex, R, rx, ec, hi, P⟩ => ?_⟩
  obtain ⟨C', dd, vs, h1, h2, h3, h4, h5, h6, h7⟩ := rx
  have : C' = C := by
    have z : X.mg ex.c = some (.ref C') := h1
    rw [ec] at z
    have z2 : X.mg c = some (.ref C) := hC
    rw [z2] at z; cases z; rfl
  subst this
  unfold hFld at P
  split at P
  · rename_i z hz
    obtain ⟨v, hv1, hv2⟩ := lookup_rel h6 h7 hz
    exact ⟨_, hi, rfl, h2, dd, vs, v, h3, h4, hv1, P mp H v (Ext.refl _ _) R hv2⟩
  · exact P.elim
/-- repr(..) -/
def hRepr (h : HX) : HX := fun ex st => (h ex st).bind reprD
theorem call_reprU {X : Cx} (hg : X.A.guards = some []) (hu : X.A.units + 64 < cLine) : CallR X (.builtin "repr") (rRepr X.K) := by
  intro pins s σ H xs us Q I rs h
  obtain ⟨x, p, rfl, dp, hs, hd, hdp, hz, q⟩ := h
  obtain ⟨u, rfl, ru⟩ := Vals.one rs
  have here : ∀ tk t, EP X pins σ Q (.str p.shown tk) { s with toks := t } := fun tk t => ⟨.str p.shown, H, I.tok t, ⟨_, rfl⟩, q⟩
  have big : X.A.units + (p.depth + 1) < cLine → ∀ a, u = .ref a → wpAny (model X.prog X.w) X.A (call (.builtin "repr") [.ref a]) (EP X pins σ Q) X.xe s := fun hu a ea => by
    subst ea
    obtain ⟨as, rd⟩ := Dp.reads I p x _ dp ru
    exact repr_of_reads' rd hs (PyData.noDict_hsm hd) hg hu (fun _ _ e => e) (fun h' v tk hk => ⟨.str p.shown, H, I.kept (t' := tk) hk, ⟨_, rfl⟩, q⟩) hz
  have hu : X.A.units + (p.depth + 1) < cLine := by omega
  cases dp with
  | non => cases ru; exact PySem.P.repr_of_none (by have := here s.toks (s.toks + 1); simp only [PyData.shown] at this; exact this)
  | bl b => cases ru; exact PySem.P.repr_of_bool (by have := here s.toks (s.toks + 1); simp only [PyData.shown] at this; exact this)
  | int i =>
    obtain ⟨t, rfl⟩ := ru
    exact PySem.P.repr_of_int (by simpa [PyData.showable] using hs) (by have := here s.toks (s.toks + 1); simp only [PyData.shown] at this; exact this)
  | str y =>
    obtain ⟨t, rfl⟩ := ru
    exact PySem.P.repr_of_str (by have := here s.toks (s.toks + 1); simp only [PyData.shown] at this; exact this) (by simpa only [PyData.shown] using hz)
  | lst q1 q2 => cases ru; exact big hu _ rfl
  | tup q1 q2 => cases ru; exact big hu _ rfl
theorem sx_repr {X : Cx} {i : Nat} {a : Addr} {c : Str} {cls : Value} {d : Option Addr} {e : Expr} {h : HX} {p pos : Pos} (hgu : X.A.guards = some []) (hu : X.A.units + 64 < cLine) (hm : X.mg "repr" = none) (he : SX X i a c cls d e h) (hg : Gl X "repr" := by rfl)
    (hst : starEach [e] X.env = (false, eval e X.env) :: starEach [] X.env := by rfl) : SX X i a c cls d (.Call (.Name "repr" p) [e] [] pos) (hRepr h) := by
  refine ⟨PE.imp (pe_callB (call_reprU hgu hu) hg hm (by first | exact PyProof.Rows.boot_repr | exact PyProof.Rows.Boot.repr | rfl) (pa_cons he.run pa_nil hst) (by decide) (by decide) hst (by rfl)) fun σ H Q ⟨mp, st, ex, R, rx, ec, hi, P⟩ => ?_⟩
  refine ⟨mp, st, ex, R, rx, ec, hi, ?_⟩
  unfold hRepr at P
  cases e1 : h ex st with
  | ok z st1 =>
    rw [e1] at P
    exact fun mp1 H1 v x1 R1 r1 => srv_repr mp1 H1 st1 [z] [v] Q W0x R1 (RvL.cons r1 RvL.nil) (PostG.ext (r := f1 reprD [z] st1) P x1)
  | exc ex2 st2 => rw [e1] at P; exact P
  | bad => rw [e1] at P; exact P
end VI
set_option maxHeartbeats 4000000
namespace VI
open PySem PySem.Spec PyProof.Rows L2

/-! ### clauses and what they make -/
inductive ClOk (Z : Cx) (n : Str) (i : Nat) : List ExceptHandler → List (Str × HX) → Prop
  | nil : ClOk Z n i [] []
  | cons {x : Str} {C : Addr} {h : HX} {e : Expr} {np p pos' : Pos} {hds : List ExceptHandler} {hs : List (Str × HX)} (hg : Gl Z x) (hm : Z.mg x = some (.ref C)) (hdb : (x == ("__debug__" : Str)) = false)
      (hsu : ∀ (a : Addr) (oe : Obj) (cls : Value) (d : Option Addr) (pn : List (Addr × Obj)), Zc cls d oe → (∃ vs, oe.data = .fields vs) → SX (Z.suite a ((a, oe) :: pn)) i a x cls d e h) (r : ClOk Z n i hds hs) :
      ClOk Z n i (.ExceptHandler (some (.Name x np)) (some n) [.Return (some e) p] pos' :: hds) ((x, h) :: hs)
/-- which classes are caught where -/
def ExmOk (Γ : Gm) (cs ys : List Str) : Prop := ∀ c ∈ cs, ∀ y ∈ ys, ∀ C Y, Γ.mg c = some (.ref C) → Γ.mg y = some (.ref Y) → PySem.W.exmOne Γ.K (.ref C) (.ref Y) = some (decide (c = y))
def handleD (cs : List Str) (hs : List (Str × HX)) (ex : Ex) (st : Mem) : Res D := if ex.c ∈ cs then (match hs.lookup ex.c with
  | some h => h ex st
  | none => .bad) else .bad
theorem clauses_of {Z : Cx} {n : Str} {i : Nat} {hds : List ExceptHandler} {hs : List (Str × HX)} (k : ClOk Z n i hds hs) :
    ∃ l, Clauses Z n hds l ∧ ∀ (cs ys : List Str) (mp : List Addr) (st : Mem) (ex : Ex) (cls : Value) (d : Option Addr) (H : Hp) (σ : L2.St) (E : Ends), (∀ x ∈ hs.map (·.1), x ∈ ys) → ExmOk (gm Z) cs ys → ex.c ∈ cs → RelM (gm Z) mp H st → RelX (gm Z) mp H ex cls d → i < σ.length →
      Post (gm Z) mp H (match hs.lookup ex.c with | some h => h ex st | none => .bad) E.rt W0x → wClauses Z.K i E l cls d σ H := by
  induction k with
  | nil => exact ⟨[], .nil, fun _ _ _ _ _ _ _ _ _ _ _ _ _ _ _ _ P => P.elim⟩
  | @cons x C h e np p pos' hds hs hg hm hdb hsu r ih =>
    obtain ⟨l, h1, h2⟩ := ih
    refine ⟨(.ref C, fun a cls d E σ H => ∃ mp st ex, RelM (gm Z) mp H st ∧ RelX (gm Z) mp H ex cls d ∧ ex.c = x ∧ σ[i]? = some (some (.ref a)) ∧ Post (gm Z) mp H (h ex st) E.rt W0x) :: l, ?_, ?_⟩
    · refine .cons (c := .ref C) ⟨hg, hdb, .inl hm⟩ (fun a oe cls d pn hz hf => ?_) h1
      exact PSs.imp (pss_one (ps_ret (hsu a oe cls d pn hz hf).run)) fun E σ H q => q
    · intro cs ys mp st ex cls d H σ E hys hE hc R rx hl P
      have rx' := rx
      obtain ⟨C', dd, vs, g1, g2, g3, _⟩ := rx'
      subst g2
      refine ⟨decide (ex.c = x), hE ex.c hc x (hys x (by simp)) C' C g1 hm, fun hb a na => ?_, fun hb => ?_⟩
      · have ec : ex.c = x := of_decide_eq_true hb
        have q : (List.lookup ex.c ((x, h) :: hs)) = some h := by rw [ec]; simp [List.lookup]
        rw [q] at P
        exact ⟨mp, st, ex, R, rx, ec, by simp [hl], P⟩
      · have ec : ¬ ex.c = x := of_decide_eq_false hb
        have q : (List.lookup ex.c ((x, h) :: hs)) = List.lookup ex.c hs := by
          have : (ex.c == x) = false := by simpa using ec
          simp [List.lookup, this]
        rw [q] at P
        exact h2 cs ys mp st ex _ d H σ E (fun y hy => hys y (by simp [hy])) hE hc R rx hl P

/-! ### a lambda handed to a def that calls it -/
section
variable {X : Cx} {pins : List (Addr × Obj)} {σ : L2.St} {H : Hp} {s : Shared}
theorem RelM.extN {Γ : Gm} {mp : List Addr} {H H' : Hp} {st : Mem} (R : RelM Γ mp H st) (e : LamX.ExtN H H') (t : LamX.Tabs (tabT Γ.K) H') : RelM Γ mp H' st ∧ Ext mp H mp H' := by
  have x : Ext mp H mp H' := ⟨fun _ _ z => z, fun a o h z n => ⟨e a o h z, n⟩⟩
  exact ⟨⟨R.len, R.nd, fun n c b e1 e2 => by
    have q := R.cell n c b e1 e2
    obtain ⟨o, h1, h2⟩ := q.hasN
    exact q.ext x (by rw [h1]; exact e b o h1 h2), t⟩, x⟩
/-- x(), in the def that got the lambda -/
theorem act_told {Eg : XK} {Ng : List Str} {qg : Str} {sg : Scope} {g f c' : Addr} {cdg pm ctv : Value} {params : Arguments} {body : Expr} {scope : Scope} {k i : Nat} {a : Str} {pn : List (Addr × Obj)} {xe : Value → Shared → Prop} {W : WX} {E : XK} {m : ME} {p1 p2 : Pos}
    (I : Inv X pins σ H s) (nd : X.N.Nodup) (gd : X.A.guards = some []) (L : LamX.LamS X.env.scope scope) (hf : s.heap.get? f = some (PySem.W.kla_obj "<lambda>" (X.env.qual ++ "<lambda>") params body scope (cloFrom X.env.cells scope.names []) pm c' ctv)) (hfn : H f = none) (hfr : f ∉ frs X.stack)
    (hbind : bindArgs (PySem.W.kla_fn "<lambda>" (X.env.qual ++ "<lambda>") params body scope (cloFrom X.env.cells scope.names []) pm (.ref c') ctv) ⟨[], []⟩ = pure [])
    (tk : Takes ((cxOf CX0 X.prog X.w X.K X.mg X.base Ng qg sg g cdg X.A X.stack s H Eg).tr pn xe) W) (hW : ∀ cls d (σ' : L2.St) H', σ'.length = Ng.length → E cls d H' → W cls d σ' H') (hr : Room (k + 1) (X.A.deeper (envOfC qg sg s.heap.objs.size g cdg)))
    (hbody : ∀ (A : Around) (outer : List PySem.Env) (s : Shared) (H : Hp) (E : XK) (f c' : Addr), XC k (LamX.lamCx X A outer s H E scope f c') → SE (LamX.lamCx X A outer s H E scope f c') body m)
    (hN : Ng[i]? = some a) (hv : Vis sg a) (hd : (a == ("__debug__" : Str)) = false) (hcd : (a == ("__classdict__" : Str)) = false) :
    PE ((cxOf CX0 X.prog X.w X.K X.mg X.base Ng qg sg g cdg X.A X.stack s H Eg).tr pn xe) (.Call (.Name a p1) [] [] p2)
      (fun σZ HZ Q => σZ[i]? = some (some (.ref f)) ∧ HZ c' = some (LamX.CodeO c' (X.env.qual ++ "<lambda>")) ∧ tE (gm X) (fun cls d _ H => E cls d H) m σ HZ Q) := by
  refine ⟨fun pinsZ sZ σZ HZ Q IZ h => ?_⟩
  obtain ⟨hs, hc, ht⟩ := h
  refine wpAny_Call_Name_kw (thn ((pe_var (pos := p1) (i := i) hN hv hd hcd).run pinsZ sZ σZ HZ (fun v H1 => v = .ref f ∧ H1 = HZ) IZ ⟨.ref f, hs, rfl, rfl⟩) fun u s1 ⟨v, H1, I1, r1, q1⟩ => ?_)
  obtain ⟨rfl, rfl⟩ := q1
  obtain rfl : u = Value.ref f := r1
  have of1 : s1.heap.get? f = some (PySem.W.kla_obj "<lambda>" (X.env.qual ++ "<lambda>") params body scope (cloFrom X.env.cells scope.names []) pm c' ctv) := I1.base.keep f _ hf hfn hfr (fun z => nomatch (show f ∈ ([] : List Addr) from z))
  refine PySem.W.callWith_F0 ⟨_, _, _, _, of1⟩ ?_
  obtain ⟨⟨oc, vs, t, hoc, hdc, hvc⟩, _, _⟩ := I1.hok c' _ hc
  have rc : codeAny (model X.prog X.w) (X.A.deeper (envOfC qg sg s.heap.objs.size g cdg)) (.call (.ref f) ⟨[], []⟩) (CR (L2.CX X.prog X.w) (envOfC qg sg s.heap.objs.size g cdg :: X.stack) X.prog X.w H1 s1 Q E) s1 := by
    refine PySem.W.kla_callFunE hr.depth of1 rfl L.co L.gen rfl ⟨c', oc, vs, t, rfl, hoc, hdc, hvc⟩ ?_
    rw [hbind]
    refine wpAny_pure (wpAny_newFunctionEnv (fun y hy => (L.own y hy).2) (fun y hy => absurd hy (by simp)) (fun h₁ hns hsb => ⟨I1.nolimit.fresh _ hsb, ?_⟩) L.kind)
    show codeAny _ _ (.expr body (LamX.lamEnv X scope s1.heap.objs.size f c')) _ _
    have kp : ∀ b o, s1.heap.get? b = some o → h₁.get? b = some o := fun b o e => hsb.extBut b o (Nat.ne_of_lt (Heap.lt_size e)) (Heap.get?_push_of_some _ e)
    have J : Inv (LamX.lamCx X (X.A.deeper (envOfC qg sg s.heap.objs.size g cdg)) (envOfC qg sg s.heap.objs.size g cdg :: X.stack) s1 H1 E scope f c') [] σ H1 { s1 with heap := h₁, toks := s1.toks + ([] : List (Str × Value)).length } :=
      LamX.lam_start2 I L I1.env0 hr.hd I1.base hns kp
    have XCl : XC k (LamX.lamCx X (X.A.deeper (envOfC qg sg s.heap.objs.size g cdg)) (envOfC qg sg s.heap.objs.size g cdg :: X.stack) s1 H1 E scope f c') := ⟨⟨hr.deeper _, gd⟩, rfl, nd, passes_of rfl⟩
    refine PySem.W.kla_codeExpr (wpAny_mono (((hbody _ _ s1 H1 E f c' XCl).run (fun cls d _ H => E cls d H) (takes_of rfl rfl rfl rfl)).run [] _ _ H1 Q J ht) (fun v s' hq => ?_) fun e s' hq => hq)
    obtain ⟨w', H', J', rv, q⟩ := hq
    exact ⟨w', H', J'.os, J'.bare, J'.base, J'.hok, rv, q⟩
  refine wpAny_call (codeAny_mono rc fun r s' hq => ?_)
  cases r with
  | error e => exact tk e s' (XE.of_call I1 (fun cls d H' h => hW cls d σZ H' I1.len h) hq)
  | ok fl =>
    cases fl with
    | ret u => exact I1.after hq
    | next => exact False.elim hq
    | brk => exact False.elim hq
    | cont => exact False.elim hq
end
/-- a def «try: return a() / except ..» (keep) or «try: a() / except .. / return None»: its text -/
def toldBody (keep : Bool) (a : Str) (hds : List ExceptHandler) (p1 p2 p3 p8 p9 p10 : Pos) (j : Nat) : List Stmt :=
  if keep then [.Try [.Return (some (.Call (.Name a p1) [] [] p2)) p3] hds [] [] p8] else [.Try [.Expr (.Call (.Name a p1) [] [] p2) p3] hds [] [] p8, .Return (some (.Constant .none j p9)) p10]
/-- such a def -/
def ToldS (K : PySem.W.Frag) (mg : Str → Option Value) (x : Str) (keep : Bool) (hs : List (Str × HX)) : Prop :=
  ∃ (st : Stmt) (a n : Str) (Ng : List Str) (hds : List ExceptHandler) (p1 p2 p3 p8 p9 p10 : Pos) (j : Nat), DefT K mg x st ∧ defBody st = toldBody keep a hds p1 p2 p3 p8 p9 p10 j ∧ FnScope Ng [a] (defScope st) ∧ Ng[0]? = some a ∧ Ng[1]? = some n ∧ Ng.length = 2 ∧ hds ≠ [] ∧
    Vis (defScope st) a ∧ (defScope st).names.lookup n = some .local ∧ (a == ("__debug__" : Str)) = false ∧ (a == ("__classdict__" : Str)) = false ∧
    (∀ (kV doc pm : Value) (an : Option Addr) (cdv ct : Value) (us : List Value), us.length = ([a] : List Str).length → bindArgs (PySem.W.fnOf x x (defArgs st) (defBody st) (defScope st) .none kV doc pm an cdv ct) ⟨us, []⟩ = pure (([a] : List Str).zip us)) ∧
    ∀ (P : Program) (w : World) (base : Heap) (g : Addr) (cdv : Value) (A : Around) (outer : List PySem.Env) (s : Shared) (H : Hp), A.guards = some [] → A.units + 80 < cLine → ClOk (cxOf CX0 P w K mg base Ng x (defScope st) g cdv A outer s H E0) n 1 hds hs
def mTold (cs : List Str) (hs : List (Str × HX)) (keep : Bool) (m : ME) : ME := fun ρ st => match m ρ st with
  | .ok d st1 => .ok (if keep then d else .non) st1
  | .exc e st1 => (handleD cs hs e st1).noX
  | .bad => .bad
section
variable {X : Cx} {x : Str} {keep : Bool} {hs : List (Str × HX)} {cs ys : List Str} {params : Arguments} {body : Expr} {scope : Scope} {m : ME} {k : Nat} {p lpos pos : Pos}
/-- x(lambda: body) -/
theorem se_told (T : ToldS X.K X.mg x keep hs) (hE : ExmOk (gm X) cs ys) (c : XC (k + 2) X) (l : XL X) (hg : Gl X x) (L : LamX.lamSB X.env.scope scope = true)
    (hbody : ∀ (A : Around) (outer : List PySem.Env) (s : Shared) (H : Hp) (E : XK) (f c' : Addr), XC k (LamX.lamCx X A outer s H E scope f c') → SE (LamX.lamCx X A outer s H E scope f c') body m)
    (hdef : defaultsOf params X.env = ([], []) := by rfl) (hbind : ∀ (q : Str) (cl : List (Str × Addr)) (pm cv ctv : Value), bindArgs (PySem.W.kla_fn "<lambda>" q params body scope cl pm cv ctv) ⟨[], []⟩ = pure [] := by intro _ _ _ _ _; rfl)
    (hys : (hs.map (·.1)).all (fun z => decide (z ∈ ys)) = true := by decide +kernel) (hdb : (x == ("__debug__" : Str)) = false := by decide) : SE X (.Call (.Name x p) [.Lambda params body scope lpos] [] pos) (mTold cs hs keep m) := by
  obtain ⟨st, a, n, Ng, hds, p1, p2, p3, p8, p9, p10, j, ⟨g, fd, hm, F, _⟩, hb, S, h0, h1, hlen, hne, hva, hln, hd, hcd, hbd, hcl⟩ := T
  obtain ⟨cO, PT, hcode, hmem⟩ := l.lam
  have LS := LamX.lamS_by L
  have hb1 : L2.Binds X.K fd [a] [] := F.binds hbd
  obtain ⟨oc, od, kV, doc, pm, an, cdv, ct, osl, efd, lk, hcg⟩ := F.ex
  subst efd
  have hTm : (PT, X.env.qual ++ "<lambda>") ∈ tabT X.K := List.mem_map.mpr ⟨_, hmem, rfl⟩
  refine ⟨fun W tk => ⟨fun pins s σ H Q I h => ?_⟩⟩
  obtain ⟨mp, sm, ρ, R, re, P⟩ := h
  refine wpAny_Call_Name_kw (ld_glob I hg hm ?_ hdb)
  refine PySem.W.callWith_K (h₀ := X.base) I.ok.mod.kin F.kp ?_ (by rfl) (by rfl)
  show wpAny _ _ (spliced ((false, eval (.Lambda params body scope lpos) X.env) :: backTo pos (starEach [] X.env))) _ _ s
  refine Calls.spliced_cons (LamX.lam_make2 I (l.ta.tb _ hmem) hcode hTm (fun q hq e => l.ta.uq q hq _ hTm e) R.tabs hdef (LS.has I.ok) fun f c' pm' ctv H1 s' I1 eN T1 hf hfn hfr hco => ?_)
  refine Calls.spliced_nil ⟨I1.kIn, ?_⟩
  obtain ⟨R1, x1⟩ := R.extN eN T1
  have re1 := re.ext x1
  have P1 := PostG.ext (r := mTold cs hs keep m ρ sm) P x1
  have rc : codeAny (model X.prog X.w) X.A (.call (.ref g) ⟨[.ref f], []⟩) (CR CX0 X.stack X.prog X.w H1 s' Q E0) s' := by
    refine LamX.run_ofS (N := Ng) (ps := [a]) (us := [.ref f]) (vs := [.ref f]) (CX := CX0) (E := E0) lk hcg S c.xr.room I1.env0 (hb1 s' [.ref f] I1.kIn rfl) (.cons rfl .nil) rfl fun hr' => ?_
    have nd : Ng.Nodup := S.nd
    have clo := hcl X.prog X.w X.base g cdv X.A X.stack s' H1 c.xr.gd (by have := c.xr.room.un; omega)
    obtain ⟨lc, hC1, hC2⟩ := clauses_of clo
    obtain ⟨h₀, hds', rfl⟩ : ∃ h₀ hds', hds = h₀ :: hds' := by
      cases hds with
      | nil => exact absurd rfl hne
      | cons z zs => exact ⟨z, zs, rfl⟩
    have sl : (L2.start Ng [V.ref f]).length = Ng.length := by unfold L2.start; simp [hlen]
    have s0 : (L2.start Ng [V.ref f])[0]? = some (some (.ref f)) := by unfold L2.start; simp
    have catch_ : ∀ (D : Ends) (e : Ex) (st1 : Mem), (∀ mp1 H2, Ext mp H1 mp1 H2 → Post (gm X) mp1 H2 (handleD cs hs e st1) D.rt W0x) → ∀ mp1 H2 cls dd, Ext mp H1 mp1 H2 → RelM (gm X) mp1 H2 st1 → RelX (gm X) mp1 H2 e cls dd → ∀ σ' : L2.St, σ'.length = Ng.length → wClauses X.K 1 D lc cls dd σ' H2 := by
      intro D e st1 hp mp1 H2 cls dd x2 R2 rx σ' hl
      have z := hp mp1 H2 x2
      unfold handleD at z
      split at z
      · rename_i hc
        exact hC2 cs ys mp1 st1 e cls dd H2 σ' D (fun y hy => of_decide_eq_true (List.all_eq_true.mp hys y hy)) hE hc R2 rx (by omega) z
      · exact z.elim
    have act : ∀ (W : WX) (pn : List (Addr × Obj)) (xe : Value → Shared → Prop) (E : XK), Takes ((cxOf CX0 X.prog X.w X.K X.mg X.base Ng x (defScope st) g cdv X.A X.stack s' H1 E0).tr pn xe) W → (∀ cls d (σ' : L2.St) H', σ'.length = Ng.length → E cls d H' → W cls d σ' H') →
        PE ((cxOf CX0 X.prog X.w X.K X.mg X.base Ng x (defScope st) g cdv X.A X.stack s' H1 E0).tr pn xe) (.Call (.Name a p1) [] [] p2)
          (fun σZ HZ Q => σZ[0]? = some (some (.ref f)) ∧ HZ c' = some (LamX.CodeO c' (X.env.qual ++ "<lambda>")) ∧ tE (gm X) (fun cls d _ H => E cls d H) m σ HZ Q) := fun W pn xe E tk hW =>
      act_told (i := 0) (k := k) I1 c.nd c.xr.gd LS hf hfn hfr (hbind _ _ _ _ _) tk hW hr' hbody h0 hva hd hcd
    have fin : ∀ (D : Ends) (G : VK), D.rt = Q → (∀ mp1 H2 d st1, Ext mp H1 mp1 H2 → RelM (gm X) mp1 H2 st1 → m ρ sm = .ok d st1 → ∀ v, Rv (gm X) mp1 H2 d v → G v H2) →
        tE (gm X) (fun cls d _ H => ∀ σ' : L2.St, σ'.length = Ng.length → wClauses X.K 1 D lc cls d σ' H) m σ H1 G := fun D G hD hG => by
      refine ⟨mp, sm, ρ, R1, re1, ?_⟩
      unfold mTold at P1
      cases em : m ρ sm with
      | ok d st1 => exact fun mp1 H2 v x2 R2 r2 => hG mp1 H2 d st1 x2 R2 em v r2
      | exc e st1 =>
        rw [em] at P1
        exact fun mp1 H2 cls dd x2 R2 rx => catch_ D e st1 (fun mp3 H3 x3 => by rw [hD]; exact post_noX (PostG.ext (r := (handleD cs hs e st1).noX) P1 x3)) mp1 H2 cls dd x2 R2 rx
      | bad => rw [em] at P1; exact P1.elim
    rw [hb]
    unfold toldBody
    cases keep with
    | true =>
      refine ⟨_, pss_one (ps_clauses (X := cxOf CX0 X.prog X.w X.K X.mg X.base Ng x (defScope st) g cdv X.A X.stack s' H1 E0) (i := 1) (n := n)
        (tb := fun W D σZ HZ => ∃ Ech : XK, (∀ cls d (σ' : L2.St) H', σ'.length = Ng.length → Ech cls d H' → W cls d σ' H') ∧ σZ[0]? = some (some (.ref f)) ∧ HZ c' = some (LamX.CodeO c' (X.env.qual ++ "<lambda>")) ∧ tE (gm X) (fun cls d _ H => Ech cls d H) m σ HZ D.rt)
        rfl rfl nd h1 hln (fun W pn xe tk _ => ⟨fun pins s'' σ'' H'' D I'' ⟨Ech, hW, g1, g2, g3⟩ => (pss_one (ps_ret (act W pn xe Ech tk hW))).run pins s'' σ'' H'' D I'' ⟨g1, g2, g3⟩⟩) hC1), ?_⟩
      refine ⟨_, fun cls d σ' H' hl h => h σ' hl, s0, hco, fin _ _ rfl fun mp1 H2 d st1 x2 R2 em v r2 => ?_⟩
      unfold mTold at P1
      rw [em] at P1
      exact P1 mp1 H2 v x2 R2 r2
    | false =>
      refine ⟨_, pss_cons (ps_clauses (X := cxOf CX0 X.prog X.w X.K X.mg X.base Ng x (defScope st) g cdv X.A X.stack s' H1 E0) (i := 1) (n := n)
        (tb := fun W D σZ HZ => ∃ Ech : XK, (∀ cls d (σ' : L2.St) H', σ'.length = Ng.length → Ech cls d H' → W cls d σ' H') ∧ σZ[0]? = some (some (.ref f)) ∧ HZ c' = some (LamX.CodeO c' (X.env.qual ++ "<lambda>")) ∧ tE (gm X) (fun cls d _ H => Ech cls d H) m σ HZ (fun _ H' => D.nx σZ H'))
        rfl rfl nd h1 hln (fun W pn xe tk _ => ⟨fun pins s'' σ'' H'' D I'' ⟨Ech, hW, g1, g2, g3⟩ => (pss_one (ps_expr (act W pn xe Ech tk hW) (by rfl))).run pins s'' σ'' H'' D I'' ⟨g1, g2, g3⟩⟩) hC1) (pss_one (ps_ret pe_non)), ?_⟩
      refine ⟨_, fun cls d σ' H' hl h => h σ' hl, s0, hco, fin _ _ rfl fun mp1 H2 d st1 x2 R2 em v r2 => ?_⟩
      unfold mTold at P1
      rw [em] at P1
      exact P1 mp1 H2 .non x2 R2 (by simp [Rv])
  refine wpAny_call (codeAny_mono rc fun r s2 hq => ?_)
  cases r with
  | error e => exact (show False from hq).elim
  | ok fl =>
    cases fl with
    | ret u => exact I1.after hq
    | next => exact False.elim hq
    | brk => exact False.elim hq
    | cont => exact False.elim hq
end
end VI
/-! VI 15: zip and enumerate of lists and tuples. -/
namespace VI
open PySem PySem.Spec PyProof.Rows L2

def SqB (K : PySem.W.Frag) (H : Hp) (k : Bool) (a : Addr) (xs : List V) : Prop := if k = true then SqT K H a xs else SqL K H a xs
def IsB (h : Heap) (k : Bool) (a : Addr) (its : Array Value) : Prop := if k = true then h.IsTuple a its else h.IsList a its
def ItB (h : Heap) (k : Bool) (it a : Addr) (i : Nat) : Prop := if k = true then h.IsTupleIter it a i else h.IsListIter it a i
def obB (k : Bool) (a : Addr) : Obj := if k = true then { cls := .type "tuple_iterator", data := .fields #[.ref a, .int 0 0] } else { cls := .type "list_iterator", data := .fields #[.ref a, .int 0 0] }
theorem drawsB {prog : Program} {w : World} {A : Around} (hh : A.handled = none) (k : Bool) (it l : Addr) (hne : l ≠ it) (items : Array Value) :
    Draws prog w A it [it, l] items.size (fun i v => items[i]? = some v) (fun i h => ItB h k it l i ∧ IsB h k l items) := by
  cases k
  · simp only [ItB, IsB, Bool.false_eq_true, if_false]; exact .list hh it l hne items
  · simp only [ItB, IsB, if_true]; exact .tuple hh it l hne items
theorem beginsB (k : Bool) (l : Addr) (items : Array Value) : Begins (.ref l) (obB k l) fun h => IsB h k l items := by
  cases k
  · simp only [obB, IsB, Bool.false_eq_true, if_false]; exact begins_list l items
  · simp only [obB, IsB, if_true]; exact begins_tuple l items
theorem ItB.begin {h : Heap} {k : Bool} {it l : Addr} (e : h.get? it = some (obB k l)) : ItB h k it l 0 := by
  cases k
  · simp only [obB, ItB, Bool.false_eq_true, if_false] at e ⊢; exact ⟨_, e, rfl, rfl⟩
  · simp only [obB, ItB, if_true] at e ⊢; exact ⟨_, e, rfl, rfl⟩
theorem ItB.obj {h : Heap} {k : Bool} {it l : Addr} {i : Nat} (e : ItB h k it l i) : ∃ o, h.get? it = some o ∧ ∀ v, o.data ≠ .cell v := by
  cases k
  · simp only [ItB, Bool.false_eq_true, if_false] at e; obtain ⟨o, ho, _, d⟩ := e; exact ⟨o, ho, fun v q => by rw [d] at q; cases q⟩
  · simp only [ItB, if_true] at e; obtain ⟨o, ho, _, d⟩ := e; exact ⟨o, ho, fun v q => by rw [d] at q; cases q⟩
theorem ItB.at {h h' : Heap} {k : Bool} {it l : Addr} {i : Nat} (e : ItB h k it l i) (f : ∀ o, h.get? it = some o → h'.get? it = some o) : ItB h' k it l i := by
  cases k
  · simp only [ItB, Bool.false_eq_true, if_false] at e ⊢; exact Heap.IsListIter.at e f
  · simp only [ItB, if_true] at e ⊢; exact Heap.IsTupleIter.at e f
theorem IsB.obj {h : Heap} {k : Bool} {l : Addr} {its : Array Value} (e : IsB h k l its) : ∃ o, h.get? l = some o := by
  cases k
  · simp only [IsB, Bool.false_eq_true, if_false] at e; obtain ⟨o, ho, _⟩ := e; exact ⟨o, ho⟩
  · simp only [IsB, if_true] at e; obtain ⟨o, ho, _⟩ := e; exact ⟨o, ho⟩
theorem invB {X : Cx} {pins : List (Addr × Obj)} {σ : L2.St} {H : Hp} {s : Shared} (I : Inv X pins σ H s) {k : Bool} {a : Addr} {xs : List V} (h : SqB X.K H k a xs) : ∃ its : List Value, Vals xs its ∧ IsB s.heap k a its.toArray := by
  cases k
  · simp only [SqB, IsB, Bool.false_eq_true, if_false] at h ⊢; obtain ⟨its, r, p, _⟩ := I.list h; exact ⟨its, r, p.isList⟩
  · simp only [SqB, IsB, if_true] at h ⊢; obtain ⟨its, r, p, _⟩ := I.tuple h; exact ⟨its, r, p⟩
theorem injB {X : Cx} {pins : List (Addr × Obj)} {σ : L2.St} {H : Hp} {s : Shared} (I : Inv X pins σ H s) {k : Bool} {a : Addr} {xs ys : List V} (h : SqB X.K H k a xs) (h' : SqB X.K H k a ys) : xs = ys := by
  cases k
  · simp only [SqB, Bool.false_eq_true, if_false] at h h'; exact I.list_inj h h'
  · simp only [SqB, if_true] at h h'; exact I.tuple_inj h h'

/-! ### zip -/
def Itz2 (K : PySem.W.Frag) (k1 k2 : Bool) (a b : Addr) : It :=
  ⟨fun i H => ∃ (xs ys : List V) (x y : V), SqB K H k1 a xs ∧ SqB K H k2 b ys ∧ xs[i]? = some x ∧ ys[i]? = some y,
    fun i H v H' => ∃ T x y, v = .ref T ∧ H T = none ∧ H' = upd H T (.tup [x, y]) ∧ (∀ xs, SqB K H k1 a xs → xs[i]? = some x) ∧ ∀ ys, SqB K H k2 b ys → ys[i]? = some y,
    fun i H => ∃ xs ys : List V, SqB K H k1 a xs ∧ SqB K H k2 b ys ∧ i = min xs.length ys.length⟩
theorem turn_zip2 {P : Program} {w : World} {K : PySem.W.Frag} {k1 k2 : Bool} {elts : List Expr} {kk : Nat} {tpos : Pos} {a b z TI TO i1 i2 : Addr} (S : ZipSep2 z TI TO i1 i2 [i1, a] [i2, b]) :
    Turn P w K (.Tuple elts kk tpos) (Itz2 K k1 k2 a b) [z, TI, TO, i1, i2] z (fun i h => IsZip h z TI TO .none ∧ IsTupOf2 h TI (.ref i1) (.ref i2) ∧ (∃ x y, IsTupOf2 h TO x y) ∧ ItB h k1 i1 a i ∧ ItB h k2 i2 b i) where
  mem := by simp
  obj := fun i h st c hc => by
    obtain ⟨hz, hTI, ⟨x, y, hTO⟩, e1, e2⟩ := st
    have e' : c = z ∨ c = TI ∨ c = TO ∨ c = i1 ∨ c = i2 := by simpa using hc
    rcases e' with q | q | q | q | q
    · rw [q]; exact ⟨_, hz, fun v q => nomatch q⟩
    · rw [q]; exact ⟨_, hTI, fun v q => nomatch q⟩
    · rw [q]; exact ⟨_, hTO, fun v q => nomatch q⟩
    · rw [q]; exact e1.obj
    · rw [q]; exact e2.obj
  keep := fun i h h' st k => by
    obtain ⟨hz, hTI, ⟨x, y, hTO⟩, h1, h2⟩ := st
    exact ⟨k z (by simp) _ hz, k TI (by simp) _ hTI, ⟨x, y, k TO (by simp) _ hTO⟩, h1.at fun o q => k i1 (by simp) o q, h2.at fun o q => k i2 (by simp) o q⟩
  item := by
    intro X hP hw hK hc i pins s σ H E I hf st hg
    subst hP hw hK
    obtain ⟨hz, hTI, hTO, h1, h2⟩ := st
    obtain ⟨xs, ys, x, y, hqx, hqy, hx, hy⟩ := hg
    obtain ⟨its, rv, p⟩ := invB I hqx
    obtain ⟨its2, rv2, p2⟩ := invB I hqy
    obtain ⟨u, hu, ru⟩ := rv.get hx
    obtain ⟨u2, hu2, ru2⟩ := rv2.get hy
    have hh : X.A.in1.handled = none := I.ok.hd hc
    have a1 : a ≠ i1 := fun e => by
      obtain ⟨o, ho⟩ := p.obj
      have := S.mem1
      have q := S.sep1_2
      cases k1 with
      | true => simp only [SqB, ItB, IsB, if_true] at h1 p; obtain ⟨o1, e1, c1, _⟩ := h1; obtain ⟨o2, e2, c2, _⟩ := p; rw [e, e1] at e2; cases e2; rw [c1] at c2; simp at c2
      | false => simp only [SqB, ItB, IsB, Bool.false_eq_true, if_false] at h1 p; obtain ⟨o1, e1, c1, _⟩ := h1; obtain ⟨o2, e2, c2, _⟩ := p; rw [e, e1] at e2; cases e2; rw [c1] at c2; simp at c2
    have a2 : b ≠ i2 := fun e => by
      cases k2 with
      | true => simp only [SqB, ItB, IsB, if_true] at h2 p2; obtain ⟨o1, e1, c1, _⟩ := h2; obtain ⟨o2, e2, c2, _⟩ := p2; rw [e, e1] at e2; cases e2; rw [c1] at c2; simp at c2
      | false => simp only [SqB, ItB, IsB, Bool.false_eq_true, if_false] at h2 p2; obtain ⟨o1, e1, c1, _⟩ := h2; obtain ⟨o2, e2, c2, _⟩ := p2; rw [e, e1] at e2; cases e2; rw [c1] at c2; simp at c2
    have W := GoesN.zip2 (prog := X.prog) (w := X.w) (A := X.A) (elts := elts) (x1 := kk) (pos := tpos) S (drawsB hh k1 i1 a a1 its.toArray) (drawsB hh k2 i2 b a2 its2.toArray)
    have hi1 : i < its.length := (List.getElem?_eq_some_iff.mp hu).1
    have hi2 : i < its2.length := (List.getElem?_eq_some_iff.mp hu2).1
    refine W.goes i s _ _ (by simp only [List.size_toArray]; omega) ⟨hz, hTI, hTO, ⟨h1, p⟩, h2, p2⟩ fun v h' tk hY st' hk htk => ?_
    obtain ⟨T, y1, y2, rfl, hT, e1, e2, hTup⟩ := hY
    have eu : y1 = u := by
      have e1' : its[i]? = some y1 := by simpa using e1
      rw [hu] at e1'; exact (Option.some.inj e1').symm
    have eu2 : y2 = u2 := by
      have e2' : its2[i]? = some y2 := by simpa using e2
      rw [hu2] at e2'; exact (Option.some.inj e2').symm
    subst eu eu2
    have new : ObjOk X.prog X.w (upd H T (.tup [x, y])) h' T (.tup [x, y]) :=
      ⟨by show 2 ≤ sizeLine; decide, [y1, y2], .cons ru (.cons ru2 .nil), hTup⟩
    have I1 : Inv X pins σ (upd H T (.tup [x, y])) { s with heap := h', toks := tk } :=
      I.turnedNew (ch := [z, TI, TO, i1, i2]) (fun c o hb q => hk c o (fun q' => hb (by
        have e' : c = z ∨ c = TO ∨ c = i1 ∨ c = i2 := by simpa using q'
        rcases e' with q | q | q | q <;> simp [q])) q) hf hT new
    refine ⟨.ref T, _, I1, rfl, ⟨_, x, y, rfl, I.hok.fresh hT, rfl, fun l hl => by rw [injB I hl hqx]; exact hx, fun l hl => by rw [injB I hl hqy]; exact hy⟩, ⟨st'.1, st'.2.1, st'.2.2.1, st'.2.2.2.1.1, st'.2.2.2.2.1⟩, fun c hcm => ?_⟩
    have hlt : c < s.heap.objs.size := by
      obtain ⟨x0, y0, hTO⟩ := hTO
      have e' : c = z ∨ c = TI ∨ c = TO ∨ c = i1 ∨ c = i2 := by simpa using hcm
      rcases e' with q | q | q | q | q
      · rw [q]; exact Heap.lt_size hz
      · rw [q]; exact Heap.lt_size hTI
      · rw [q]; exact Heap.lt_size hTO
      · rw [q]; obtain ⟨_, e1, _⟩ := h1.obj; exact Heap.lt_size e1
      · rw [q]; obtain ⟨_, e2, _⟩ := h2.obj; exact Heap.lt_size e2
    rw [upd_ne (Nat.ne_of_lt (Nat.lt_of_lt_of_le hlt hT))]
    exact (hf c hcm).1
  done := by
    intro X hP hw hK hc i pins s σ H E I hf st hg
    subst hP hw hK
    obtain ⟨hz, hTI, hTO, h1, h2⟩ := st
    obtain ⟨xs, ys, hqx, hqy, hend⟩ := hg
    obtain ⟨its, rv, p⟩ := invB I hqx
    obtain ⟨its2, rv2, p2⟩ := invB I hqy
    have hh : X.A.in1.handled = none := I.ok.hd hc
    have l1 := rv.length
    have l2 := rv2.length
    have a1 : a ≠ i1 := fun e => by
      cases k1 with
      | true => simp only [SqB, ItB, IsB, if_true] at h1 p; obtain ⟨o1, e1, c1, _⟩ := h1; obtain ⟨o2, e2, c2, _⟩ := p; rw [e, e1] at e2; cases e2; rw [c1] at c2; simp at c2
      | false => simp only [SqB, ItB, IsB, Bool.false_eq_true, if_false] at h1 p; obtain ⟨o1, e1, c1, _⟩ := h1; obtain ⟨o2, e2, c2, _⟩ := p; rw [e, e1] at e2; cases e2; rw [c1] at c2; simp at c2
    have a2 : b ≠ i2 := fun e => by
      cases k2 with
      | true => simp only [SqB, ItB, IsB, if_true] at h2 p2; obtain ⟨o1, e1, c1, _⟩ := h2; obtain ⟨o2, e2, c2, _⟩ := p2; rw [e, e1] at e2; cases e2; rw [c1] at c2; simp at c2
      | false => simp only [SqB, ItB, IsB, Bool.false_eq_true, if_false] at h2 p2; obtain ⟨o1, e1, c1, _⟩ := h2; obtain ⟨o2, e2, c2, _⟩ := p2; rw [e, e1] at e2; cases e2; rw [c1] at c2; simp at c2
    have W := GoesN.zip2 (prog := X.prog) (w := X.w) (A := X.A) (elts := elts) (x1 := kk) (pos := tpos) S (drawsB hh k1 i1 a a1 its.toArray) (drawsB hh k2 i2 b a2 its2.toArray)
    have en : min its.toArray.size its2.toArray.size = i := by simp only [List.size_toArray]; rw [hend, ← l1, ← l2]
    refine W.stops s _ _ (by rw [en]; exact ⟨hz, hTI, hTO, ⟨h1, p⟩, h2, p2⟩) fun h' tk hk htk => ?_
    exact I.turnedL (ch := [z, TI, TO, i1, i2]) (fun c o hb q => hk c o (fun q' => hb (by
        have e' : c = z ∨ c = TO ∨ c = i1 ∨ c = i2 := by simpa using q'
        rcases e' with q | q | q | q <;> simp [q])) q) hf
  self := fun A i s Q E st h => wpAny_pyIter_zip st.1 h

theorem neN {a b : Nat} (h : a < b ∨ b < a) : ¬ (@Eq Addr a b) := by
  intro e
  have e' : @Eq Nat a b := e
  omega
theorem nmN {z a b : Nat} (h : z < a ∨ a < z) (h' : z < b ∨ b < z) : ¬ (@Membership.mem Addr (List Addr) _ [a, b] z) := by
  intro e
  rcases List.mem_cons.mp e with e | e
  · exact neN h e
  · exact neN h' (List.mem_singleton.mp e)
theorem zipSep_new {n a b : Nat} (l1 : a < n) (l2 : b < n) : ZipSep2 (n + 4) (n + 2) (n + 3) n (n + 1) [n, a] [n + 1, b] where
  TIz := neN (by omega)
  TOz := neN (by omega)
  TITO := neN (by omega)
  TIi1 := neN (by omega)
  mem1 := List.mem_cons_self ..
  zf1 := nmN (by omega) (by omega)
  Tf1 := nmN (by omega) (by omega)
  TIi2 := neN (by omega)
  mem2 := List.mem_cons_self ..
  zf2 := nmN (by omega) (by omega)
  Tf2 := nmN (by omega) (by omega)
  sep1_2 := nmN (by omega) (by omega)
  sep2_1 := nmN (by omega) (by omega)
def iZip2 (K : PySem.W.Frag) (ta : TA) : TI := fun σ H R => ta σ H fun vs H1 => ∃ k1 k2 a b xs ys, vs = [.ref a, .ref b] ∧ SqB K H1 k1 a xs ∧ SqB K H1 k2 b ys ∧ R (Itz2 K k1 k2 a b) H1
theorem pi_zip2 {X : Cx} {e e2 : Expr} {ta : TA} {p pos tpos : Pos} {elts : List Expr} {kk : Nat} (hg : Gl X "zip") (hm : X.mg "zip" = none) (ha : PA X [e, e2] ta)
    (hs : starEach [e, e2] X.env = (false, eval e X.env) :: starEach [e2] X.env := by rfl) (hpl : (backTo pos (starEach [e2] X.env)).any (·.1) = false := by rfl) :
    PI X (.Tuple elts kk tpos) (.Call (.Name "zip" p) [e, e2] [] pos) (iZip2 X.K ta) := by
  refine ⟨fun pins s σ H R I h => ?_⟩
  refine Call_ (ld_blt I hg hm PyProof.Rows.boot_zip (PyProof.Rows.callWith_type1 (thn (ha.run pos pins s σ H _ I h) fun us s1 ⟨vs, H1, I1, r1, q1⟩ => ?_) hs hpl))
  obtain ⟨k1, k2, a, b, xs, ys, ex, hqx, hqy, q⟩ := q1
  subst ex
  cases r1 with
  | cons r rr =>
    cases rr with
    | cons r' rr =>
      cases rr
      cases r
      cases r'
      obtain ⟨its, rv, p1⟩ := invB I1 hqx
      obtain ⟨its2, rv2, p2⟩ := invB I1 hqy
      obtain ⟨_, g1⟩ := p1.obj
      obtain ⟨_, g2⟩ := p2.obj
      have l1 := Heap.lt_size g1
      have l2 := Heap.lt_size g2
      refine zip_begins2 (beginsB k1 a its.toArray) (beginsB k2 b its2.toArray) p1 p2 fun h' hz hTI hTO h1 h2 hsz hk => wpAny_pyIter_zip hz ?_
      have I2 : Inv X pins σ H1 { s1 with heap := h' } := I1.kept (t' := s1.toks) hk
      have S := zipSep_new l1 l2
      refine ⟨s1.heap.objs.size + 4, [s1.heap.objs.size + 4, s1.heap.objs.size + 2, s1.heap.objs.size + 3, s1.heap.objs.size, s1.heap.objs.size + 1], _, _, H1, rfl, I2, turn_zip2 (k1 := k1) (k2 := k2) S, ⟨hz, hTI, ⟨_, _, hTO⟩, ItB.begin h1, ItB.begin h2⟩, fun c hcm => ?_, q⟩
      have hle : s1.heap.objs.size ≤ c := by
        have e' : c = s1.heap.objs.size + 4 ∨ c = s1.heap.objs.size + 2 ∨ c = s1.heap.objs.size + 3 ∨ c = s1.heap.objs.size ∨ c = s1.heap.objs.size + 1 := by simpa using hcm
        rcases e' with z | z | z | z | z
        · rw [z]; exact Nat.le_add_right _ _
        · rw [z]; exact Nat.le_add_right _ _
        · rw [z]; exact Nat.le_add_right _ _
        · rw [z]; exact Nat.le_refl _
        · rw [z]; exact Nat.le_add_right _ _
      exact I1.fpOk hle (I1.hok.fresh hle)

def zipD (xs ys : List D) : List D := List.zipWith (fun x y => D.tup [x, y]) xs ys
def mZip (ms : List ME) : ML := fun ρ st => (mArgs ms ρ st).bind fun ds st1 => match ds with
  | [d, e] => (match frzD d, frzD e with
    | some xs, some ys => .ok (zipD xs ys) st1
    | _, _ => .bad)
  | _ => .bad
theorem walk_zip2 {Γ : Gm} {mp : List Addr} {H : Hp} {k1 k2 : Bool} {a b : Addr} {vs us : List V} {xs ys : List D} (h1 : ∀ mp' H', Ext mp H mp' H' → SqB Γ.K H' k1 a vs) (h2 : ∀ mp' H', Ext mp H mp' H' → SqB Γ.K H' k2 b us)
    (r1 : RvL Γ mp H xs vs) (r2 : RvL Γ mp H ys us) : WalkRel Γ mp H (zipD xs ys) (Itz2 Γ.K k1 k2 a b) := by
  have l1 := r1.length
  have l2 := r2.length
  have hl : (zipD xs ys).length = min vs.length us.length := by simp [zipD, l1, l2]
  refine ⟨fun H' => SqB Γ.K H' k1 a vs ∧ SqB Γ.K H' k2 b us, fun i H v H' => ∃ T x y, v = .ref T ∧ H T = none ∧ H' = upd H T (.tup [x, y]) ∧ vs[i]? = some x ∧ us[i]? = some y, ⟨fun i H' hi g => ?_, fun H' g => ?_, fun i H' x H'' hi g y => ?_⟩, fun mp' H' e => ⟨h1 _ _ e, h2 _ _ e⟩, fun mp' H' st' i x H'' e R hi y => ?_⟩
  · have i1 : i < vs.length := by omega
    have i2 : i < us.length := by omega
    exact ⟨vs, us, _, _, g.1, g.2, List.getElem?_eq_getElem i1, List.getElem?_eq_getElem i2⟩
  · exact ⟨vs, us, g.1, g.2, hl⟩
  · obtain ⟨T, x1, y1, e1, e2, e3, f1, f2⟩ := y
    exact ⟨T, x1, y1, e1, e2, e3, f1 _ g.1, f2 _ g.2⟩
  · obtain ⟨T, x1, y1, rfl, e2, rfl, f1, f2⟩ := y
    refine ⟨fun b o hb => by rw [upd_ne (fun z => by rw [z, e2] at hb; cases hb)]; exact hb, ?_⟩
    obtain ⟨d1, g1, q1⟩ := r1.getV f1
    obtain ⟨d2, g2, q2⟩ := r2.getV f2
    have x2 : Ext mp H mp' (upd H' T (.tup [x1, y1])) := e.trans (ext_laid e2)
    refine ⟨.tup [d1, d2], ?_, ?_⟩
    · simp [zipD, List.getElem?_zipWith, g1, g2]
    · simp only [Rv]
      exact ⟨T, [x1, y1], rfl, ⟨upd_same, R.fresh e2⟩, RvL.cons (Rv.ext x2 _ _ q1) (RvL.cons (Rv.ext x2 _ _ q2) RvL.nil)⟩
theorem frz_walkB {Γ : Gm} {mp : List Addr} {H : Hp} {d : D} {x : V} {xs : List D} (h : Rv Γ mp H d x) (e : frzD d = some xs) :
    ∃ k a vs, x = .ref a ∧ RvL Γ mp H xs vs ∧ ∀ mp' H', Ext mp H mp' H' → SqB Γ.K H' k a vs := by
  obtain ⟨a, vs, h1, h2, h3⟩ := frz_walk h e
  rcases h3 with h3 | h3
  · exact ⟨false, a, vs, h1, h2, fun _ _ e => by simp only [SqB, Bool.false_eq_true, if_false]; exact h3 _ _ e⟩
  · exact ⟨true, a, vs, h1, h2, fun _ _ e => by simp only [SqB, if_true]; exact h3 _ _ e⟩
theorem si_zip {X : Cx} {e e2 : Expr} {ms : List ME} {p pos tpos : Pos} {elts : List Expr} {kk : Nat} (ha : SA X [e, e2] ms) (hg : Gl X "zip") (hm : X.mg "zip" = none)
    (hs : starEach [e, e2] X.env = (false, eval e X.env) :: starEach [e2] X.env := by rfl) (hpl : (backTo pos (starEach [e2] X.env)).any (·.1) = false := by rfl) :
    SI X (.Tuple elts kk tpos) (.Call (.Name "zip" p) [e, e2] [] pos) (mZip ms) := ⟨fun W tk => PI.imp (pi_zip2 hg hm (ha.run W tk) hs hpl) fun σ H Q q => by
  obtain ⟨mp, st, ρ, R, E, P⟩ := q
  refine ⟨mp, st, ρ, R, E, P.bind'.mono fun us H1 ⟨mp1, st1, ds, _, x1, R1, r1, P1⟩ => ?_⟩
  split at P1
  · rename_i d e'
    split at P1
    · rename_i xs ys f1 f2
      simp only [RvL] at r1
      obtain ⟨v1, r, rfl, q1, v2, r', rfl, q2, rfl⟩ := r1
      obtain ⟨k1, a, vs, rfl, z1, g1⟩ := frz_walkB q1 f1
      obtain ⟨k2, b, us, rfl, z2, g2⟩ := frz_walkB q2 f2
      exact ⟨k1, k2, a, b, vs, us, rfl, g1 _ _ (Ext.refl _ _), g2 _ _ (Ext.refl _ _), P1 mp1 H1 _ (Ext.refl _ _) R1 (walk_zip2 g1 g2 z1 z2)⟩
    · exact P1.elim
  · exact P1.elim⟩

/-! ### enumerate -/
theorem meets_enumerate_newT (l : Addr) (items : Array Value) (n : Nat) (dct : Option Addr) (sl : Array (Option Value)) :
    Meets (Builtin.«enumerate.__new__» ⟨[.type "enumerate", .ref l], []⟩) (fun _ R s => s.heap.get? l = some { cls := .type "tuple", dict := dct, data := .seq items n, slots := sl } ∧
      R (.ok (.ret (.ref (s.heap.push { cls := .type "tuple_iterator", data := .fields #[.ref l, .int 0 0] }).objs.size)))
        { s with heap := (s.heap.push { cls := .type "tuple_iterator", data := .fields #[.ref l, .int 0 0] }).push { cls := .type "enumerate", data := .fields #[.none, .bool false, .ref s.heap.objs.size, rawInt 0, .none, .none] } }) :=
  .of_wp fun prog w A R s h => by
    obtain ⟨hp, g, d, tk, os⟩ := s; obtain ⟨hl, h⟩ := h
    have hsub := sub_enumerate
    have hL : Heap.IsTuple (Shared.heap ⟨hp, g, d, tk, os⟩) l items := ⟨_, hl, rfl, n, rfl⟩
    wp_walk using AutoSeq1.wpAny_loadPart' hl
    refine wpAny_stack_any fun st => wpAny_pure ?_
    split
    · rename_i c _ _ _ _ _
      cases (c == Value.type "enumerate")
      · wp_walk using AutoSeq1.wpAny_loadPart' hl, wpAny_pyIter_tuple hL
        exact ⟨_, rfl, h⟩
      · wp_walk using AutoSeq1.wpAny_loadPart' hl, wpAny_pyIter_tuple hL
        exact ⟨_, rfl, h⟩
    · wp_walk using AutoSeq1.wpAny_loadPart' hl, wpAny_pyIter_tuple hL
      exact ⟨_, rfl, h⟩
theorem call_enumerate_tuple {prog : Program} {w : World} {A : Around} {E : Value → Shared → Prop} {s : Shared} {l : Addr} {items : Array Value} {Q : Value → Shared → Prop} (hL : s.heap.IsTuple l items)
    (h : ∀ h', IsEnum h' (s.heap.objs.size + 1) s.heap.objs.size 0 .none → h'.IsTupleIter s.heap.objs.size l 0 → h'.objs.size = s.heap.objs.size + 2 →
      (∀ b o, s.heap.get? b = some o → h'.get? b = some o) → Q (.ref (s.heap.objs.size + 1)) { s with heap := h' }) :
    wpAny (model prog w) A (call (.type "enumerate") [.ref l]) Q E s := by
  obtain ⟨⟨c, dct, dt, sl⟩, hl, hc, n, hd⟩ := hL
  replace hc : c = .type "tuple" := hc
  replace hd : dt = .seq items n := hd
  subst hc hd
  refine callType_new F.called_enumerate (by decide) (F.typeCall_enumerate_1 _) (F.newCall_enumerate_1 _) (fun obj => F.args_object_init_2 obj _) F.entry_enumerate_new
    (meets_enumerate_newT l items n dct sl) ⟨hl, ?_⟩
  have hz : (s.heap.push { cls := .type "tuple_iterator", data := .fields #[.ref l, .int 0 0] }).objs.size = s.heap.objs.size + 1 := Heap.size_push ..
  show _ ∧ _
  rw [hz]
  have he : IsEnum ((s.heap.push { cls := .type "tuple_iterator", data := .fields #[.ref l, .int 0 0] }).push
      { cls := .type "enumerate", data := .fields #[.none, .bool false, .ref s.heap.objs.size, rawInt 0, .none, .none] }) (s.heap.objs.size + 1) s.heap.objs.size 0 .none := by
    have := Heap.get?_push_size (s.heap.push { cls := .type "tuple_iterator", data := .fields #[.ref l, .int 0 0] })
      (o := { cls := .type "enumerate", data := .fields #[.none, .bool false, .ref s.heap.objs.size, rawInt 0, .none, .none] }) rfl
    rw [hz] at this; exact this
  refine ⟨⟨_, he, rfl⟩, h _ he ⟨_, Heap.get?_push_of_some _ (Heap.get?_push_size _ rfl), rfl, rfl⟩ (by rw [Heap.size_push, hz]) fun b o x => Heap.get?_push_of_some _ (Heap.get?_push_of_some _ x)⟩

def Ite2 (K : PySem.W.Frag) (k : Bool) (a : Addr) : It :=
  ⟨fun i H => ∃ (xs : List V) (x : V), SqB K H k a xs ∧ xs[i]? = some x,
    fun i H v H' => ∃ T x, v = .ref T ∧ H T = none ∧ H' = upd H T (.tup [.int (i : Nat), x]) ∧ ∀ xs, SqB K H k a xs → xs[i]? = some x,
    fun i H => ∃ xs : List V, SqB K H k a xs ∧ i = xs.length⟩
theorem iter_ne {X : Cx} {s : Shared} {k : Bool} {it a : Addr} {i : Nat} {its : Array Value} (h1 : ItB s.heap k it a i) (p : IsB s.heap k a its) : a ≠ it := fun e => by
  cases k with
  | true => simp only [ItB, IsB, if_true] at h1 p; obtain ⟨o1, e1, c1, _⟩ := h1; obtain ⟨o2, e2, c2, _⟩ := p; rw [e, e1] at e2; cases e2; rw [c1] at c2; simp at c2
  | false => simp only [ItB, IsB, Bool.false_eq_true, if_false] at h1 p; obtain ⟨o1, e1, c1, _⟩ := h1; obtain ⟨o2, e2, c2, _⟩ := p; rw [e, e1] at e2; cases e2; rw [c1] at c2; simp at c2
theorem enum_ne {s : Shared} {k : Bool} {e it a : Addr} {i : Int} {old : Value} {its : Array Value} (h1 : IsEnum s.heap e it i old) (p : IsB s.heap k a its) : a ≠ e := fun q => by
  cases k with
  | true => simp only [IsB, if_true] at p; obtain ⟨o2, e2, c2, _⟩ := p; rw [q, h1] at e2; cases e2; simp at c2
  | false => simp only [IsB, Bool.false_eq_true, if_false] at p; obtain ⟨o2, e2, c2, _⟩ := p; rw [q, h1] at e2; cases e2; simp at c2
theorem turn_enum2 {P : Program} {w : World} {K : PySem.W.Frag} {k : Bool} {elts : List Expr} {kk : Nat} {tpos : Pos} {a e it : Addr} (hne : e ≠ it) :
    Turn P w K (.Tuple elts kk tpos) (Ite2 K k a) [e, it] e (fun i h => (∃ old, IsEnum h e it ((i : Nat) : Int) old) ∧ ItB h k it a i) where
  mem := by simp
  obj := fun i h st c hc => by
    obtain ⟨⟨old, he⟩, e1⟩ := st
    have e' : c = e ∨ c = it := by simpa using hc
    rcases e' with q | q
    · rw [q]; exact ⟨_, he, fun v q => nomatch q⟩
    · rw [q]; exact e1.obj
  keep := fun i h h' st k => by
    obtain ⟨⟨old, he⟩, h1⟩ := st
    exact ⟨⟨old, k e (by simp) _ he⟩, h1.at fun o q => k it (by simp) o q⟩
  item := by
    intro X hP hw hK hc i pins s σ H E I hf st hg
    subst hP hw hK
    obtain ⟨⟨old, he⟩, h1⟩ := st
    obtain ⟨xs, x, hqx, hx⟩ := hg
    obtain ⟨its, rv, p⟩ := invB I hqx
    obtain ⟨u, hu, ru⟩ := rv.get hx
    have hh : X.A.in1.handled = none := I.ok.hd hc
    have a1 : a ≠ it := iter_ne (X := X) h1 p
    have a2 : a ≠ e := enum_ne he p
    have W := GoesN.enumFrom (prog := X.prog) (w := X.w) (A := X.A) (elts := elts) (x1 := kk) (pos := tpos) 0 (drawsB hh k it a a1 its.toArray) e hne (by
      intro q; rcases List.mem_cons.mp q with q | q
      · exact hne q
      · exact a2 (List.mem_singleton.mp q).symm) (List.mem_cons_self ..)
    have hi1 : i < its.length := (List.getElem?_eq_some_iff.mp hu).1
    refine W.goes i s _ _ (by simpa using hi1) ⟨⟨old, by rw [Int.zero_add]; exact he⟩, h1, p⟩ fun v h' tk hY st' hk htk => ?_
    obtain ⟨T, t, y1, rfl, hT, e1, hTup⟩ := hY
    have eu : y1 = u := by
      have e1' : its[i]? = some y1 := by simpa using e1
      rw [hu] at e1'; exact (Option.some.inj e1').symm
    subst eu
    rw [Int.zero_add] at hTup
    have new : ObjOk X.prog X.w (upd H T (.tup [.int (i : Nat), x])) h' T (.tup [.int (i : Nat), x]) :=
      ⟨by show 2 ≤ sizeLine; decide, [.int (i : Nat) t, y1], .cons ⟨_, rfl⟩ (.cons ru .nil), hTup⟩
    have I1 : Inv X pins σ (upd H T (.tup [.int (i : Nat), x])) { s with heap := h', toks := tk } :=
      I.turnedNew (ch := [e, it]) (fun c o hb q => hk c o hb q) hf hT new
    obtain ⟨old', he'⟩ := st'.1
    refine ⟨.ref T, _, I1, rfl, ⟨_, x, rfl, I.hok.fresh hT, rfl, fun l hl => by rw [injB I hl hqx]; exact hx⟩, ⟨⟨old', by rw [Int.zero_add] at he'; exact he'⟩, st'.2.1⟩, fun c hcm => ?_⟩
    have hlt : c < s.heap.objs.size := by
      have e' : c = e ∨ c = it := by simpa using hcm
      rcases e' with q | q
      · rw [q]; exact Heap.lt_size he
      · rw [q]; obtain ⟨_, e1, _⟩ := h1.obj; exact Heap.lt_size e1
    rw [upd_ne (Nat.ne_of_lt (Nat.lt_of_lt_of_le hlt hT))]
    exact (hf c hcm).1
  done := by
    intro X hP hw hK hc i pins s σ H E I hf st hg
    subst hP hw hK
    obtain ⟨⟨old, he⟩, h1⟩ := st
    obtain ⟨xs, hqx, hend⟩ := hg
    obtain ⟨its, rv, p⟩ := invB I hqx
    have hh : X.A.in1.handled = none := I.ok.hd hc
    have l1 := rv.length
    have a1 : a ≠ it := iter_ne (X := X) h1 p
    have a2 : a ≠ e := enum_ne he p
    have W := GoesN.enumFrom (prog := X.prog) (w := X.w) (A := X.A) (elts := elts) (x1 := kk) (pos := tpos) 0 (drawsB hh k it a a1 its.toArray) e hne (by
      intro q; rcases List.mem_cons.mp q with q | q
      · exact hne q
      · exact a2 (List.mem_singleton.mp q).symm) (List.mem_cons_self ..)
    have en : its.toArray.size = i := by simp only [List.size_toArray]; rw [hend, ← l1]
    refine W.stops s _ _ (by rw [en]; exact ⟨⟨old, by rw [Int.zero_add]; exact he⟩, h1, p⟩) fun h' tk hk htk => ?_
    exact I.turnedL (ch := [e, it]) (fun c o hb q => hk c o hb q) hf
  self := fun A i s Q E st h => by
    obtain ⟨⟨old, he⟩, _⟩ := st
    exact wpAny_pyIter_enum he h
def iEnum2 (K : PySem.W.Frag) (ta : TA) : TI := fun σ H R => ta σ H fun vs H1 => ∃ k a xs, vs = [.ref a] ∧ SqB K H1 k a xs ∧ R (Ite2 K k a) H1
theorem pi_enum2 {X : Cx} {e : Expr} {ta : TA} {p pos tpos : Pos} {elts : List Expr} {kk : Nat} (hg : Gl X "enumerate") (hm : X.mg "enumerate" = none) (ha : PA X [e] ta) (hs : starEach [e] X.env = [(false, eval e X.env)] := by rfl) :
    PI X (.Tuple elts kk tpos) (.Call (.Name "enumerate" p) [e] [] pos) (iEnum2 X.K ta) := by
  refine ⟨fun pins s σ H R I h => ?_⟩
  refine Call_ (ld_blt I hg hm boot_enumerate (PyProof.Rows.callWith_type1 (thn (ha.run pos pins s σ H _ I h) fun us s1 ⟨vs, H1, I1, r1, q1⟩ => ?_) hs rfl))
  obtain ⟨k, a, xs, ex, hq, q⟩ := q1
  subst ex
  cases r1 with
  | cons r rr =>
    cases rr
    cases r
    obtain ⟨its, rv, p'⟩ := invB I1 hq
    have fr : ∀ b ∈ [s1.heap.objs.size + 1, s1.heap.objs.size], FpOk X pins H1 b := fun b hb => by
      have e' : b = s1.heap.objs.size + 1 ∨ b = s1.heap.objs.size := by simpa using hb
      have hle : s1.heap.objs.size ≤ b := by
        rcases e' with z | z
        · rw [z]; exact Nat.le_add_right _ _
        · rw [z]; exact Nat.le_refl _
      exact I1.fpOk hle (I1.hok.fresh hle)
    cases k with
    | true =>
      have p2 : s1.heap.IsTuple a its.toArray := by simpa only [IsB, if_true] using p'
      refine call_enumerate_tuple p2 fun h' he hit hsz hk => wpAny_pyIter_enum he ?_
      have I2 : Inv X pins σ H1 { s1 with heap := h' } := I1.kept (t' := s1.toks) hk
      exact ⟨s1.heap.objs.size + 1, [s1.heap.objs.size + 1, s1.heap.objs.size], _, _, H1, rfl, I2, turn_enum2 (k := true) (Nat.succ_ne_self _), ⟨⟨.none, he⟩, by simpa only [ItB, if_true] using hit⟩, fr, q⟩
    | false =>
      have p2 : s1.heap.IsList a its.toArray := by simpa only [IsB, Bool.false_eq_true, if_false] using p'
      refine call_enumerate_list p2 fun h' he hit hsz hk => wpAny_pyIter_enum he ?_
      have I2 : Inv X pins σ H1 { s1 with heap := h' } := I1.kept (t' := s1.toks) hk
      exact ⟨s1.heap.objs.size + 1, [s1.heap.objs.size + 1, s1.heap.objs.size], _, _, H1, rfl, I2, turn_enum2 (k := false) (Nat.succ_ne_self _), ⟨⟨.none, he⟩, by simpa only [ItB, Bool.false_eq_true, if_false] using hit⟩, fr, q⟩
def enumD (xs : List D) : List D := xs.mapIdx fun i x => D.tup [.int (i : Nat), x]
def mEnum (m : ME) : ML := fun ρ st => (mArgs [m] ρ st).bind fun ds st1 => match ds with
  | [d] => (match frzD d with
    | some xs => .ok (enumD xs) st1
    | none => .bad)
  | _ => .bad
theorem walk_enum2 {Γ : Gm} {mp : List Addr} {H : Hp} {k : Bool} {a : Addr} {vs : List V} {xs : List D} (h1 : ∀ mp' H', Ext mp H mp' H' → SqB Γ.K H' k a vs)
    (r1 : RvL Γ mp H xs vs) : WalkRel Γ mp H (enumD xs) (Ite2 Γ.K k a) := by
  have l1 := r1.length
  have hl : (enumD xs).length = vs.length := by simp [enumD, l1]
  refine ⟨fun H' => SqB Γ.K H' k a vs, fun i H v H' => ∃ T x, v = .ref T ∧ H T = none ∧ H' = upd H T (.tup [.int (i : Nat), x]) ∧ vs[i]? = some x, ⟨fun i H' hi g => ?_, fun H' g => ?_, fun i H' x H'' hi g y => ?_⟩, fun mp' H' e => h1 _ _ e, fun mp' H' st' i x H'' e R hi y => ?_⟩
  · have i1 : i < vs.length := by omega
    exact ⟨vs, _, g, List.getElem?_eq_getElem i1⟩
  · exact ⟨vs, g, hl⟩
  · obtain ⟨T, x1, e1, e2, e3, f1⟩ := y
    exact ⟨T, x1, e1, e2, e3, f1 _ g⟩
  · obtain ⟨T, x1, rfl, e2, rfl, f1⟩ := y
    refine ⟨fun b o hb => by rw [upd_ne (fun z => by rw [z, e2] at hb; cases hb)]; exact hb, ?_⟩
    obtain ⟨d1, g1, q1⟩ := r1.getV f1
    have x2 : Ext mp H mp' (upd H' T (.tup [.int (i : Nat), x1])) := e.trans (ext_laid e2)
    refine ⟨.tup [.int (i : Nat), d1], ?_, ?_⟩
    · simp [enumD, List.getElem?_mapIdx, g1]
    · simp only [Rv]
      exact ⟨T, [.int (i : Nat), x1], rfl, ⟨upd_same, R.fresh e2⟩, RvL.cons (by simp [Rv]) (RvL.cons (Rv.ext x2 _ _ q1) RvL.nil)⟩
theorem si_enum {X : Cx} {e : Expr} {m : ME} {p pos tpos : Pos} {elts : List Expr} {kk : Nat} (he : SE X e m) (hg : Gl X "enumerate") (hm : X.mg "enumerate" = none)
    (hs : starEach [e] X.env = [(false, eval e X.env)] := by rfl) :
    SI X (.Tuple elts kk tpos) (.Call (.Name "enumerate" p) [e] [] pos) (mEnum m) := ⟨fun W tk => PI.imp (pi_enum2 hg hm ((sa_cons he sa_nil hs).run W tk) hs) fun σ H Q q => by
  obtain ⟨mp, st, ρ, R, E, P⟩ := q
  refine ⟨mp, st, ρ, R, E, P.bind'.mono fun us H1 ⟨mp1, st1, ds, _, x1, R1, r1, P1⟩ => ?_⟩
  split at P1
  · rename_i d
    split at P1
    · rename_i xs f1
      simp only [RvL] at r1
      obtain ⟨v1, r, rfl, q1, rfl⟩ := r1
      obtain ⟨k1, a, vs, rfl, z1, g1⟩ := frz_walkB q1 f1
      exact ⟨k1, a, vs, rfl, g1 _ _ (Ext.refl _ _), P1 mp1 H1 _ (Ext.refl _ _) R1 (walk_enum2 g1 z1)⟩
    · exact P1.elim
  · exact P1.elim⟩
end VI
set_option maxHeartbeats 4000000
/-! VI 16: comprehensions of two clauses. -/
namespace VI
open PySem PySem.Spec PyProof.Rows L2

theorem walk_it {J : It} {n : Nat} {G : Hp → Prop} {Y : Nat → Hp → V → Hp → Prop} (w : Walk J n G Y) {B : V → Hp → (Hp → Prop) → Prop} {H1 : Hp} {Qd : Hp → Prop} (Pv : Nat → Hp → Prop) (h0 : Pv 0 H1) (hG : ∀ i H, i ≤ n → Pv i H → G H)
    (hs : ∀ i x H H', i < n → Pv i H → Y i H x H' → B x H' (Pv (i + 1))) (hd : ∀ H, Pv n H → Qd H) :
    ∃ W : Nat → Nat → Hp → Prop, (∃ m, W 0 m H1) ∧ ∀ i m H, W i m H →
      (J.stop i H ∧ Qd H) ∨ (J.go i H ∧ ∃ Nx : Hp → Prop, (∀ H', Nx H' → ∃ m', m' < m ∧ W (i + 1) m' H') ∧ ∀ x H', J.yld i H x H' → B x H' Nx) := by
  refine ⟨fun i m H => m = n - i ∧ i ≤ n ∧ Pv i H, ⟨n, by simp, Nat.zero_le _, h0⟩, ?_⟩
  rintro i m H ⟨rfl, hi, p⟩
  have q := hG i H hi p
  by_cases hlt : i < n
  · refine .inr ⟨w.goes i H hlt q, Pv (i + 1), fun H' p' => ⟨n - (i + 1), by omega, rfl, hlt, p'⟩, fun x H' y => hs i x H H' hlt p (w.yields i H x H' hlt q y)⟩
  · have e : i = n := by omega
    subst e
    exact .inl ⟨w.stops H q, hd H p⟩
theorem Res.bind_assoc {α β γ : Type} (r : Res α) (f : α → Mem → Res β) (g : β → Mem → Res γ) : (r.bind f).bind g = r.bind fun a s => (f a s).bind g := by
  cases r <;> rfl
/-- one turn's store, test and element -/
theorem turn_step {Γ : Gm} {γ : Type} {C : Res γ → Prop} (hC : ¬ C .bad) {mp2 : List Addr} {H3 : Hp} {st2 : Mem} {ρ : Env} {σ : L2.St} {n : Nat} {A : Addr} {vs us : List Nat} {g : MG} {t : MB} {m : ME} {d : D} {x : V} {k : Mem → Res γ} {Nx : Hp → Prop}
    (hus : ∀ j, j ∈ us → j ∈ vs) (nA : mp2[n]? = some A) (R : RelM Γ mp2 H3 st2) (re : RelE Γ mp2 H3 ρ σ) (rd : Rv Γ mp2 H3 d x)
    (P2 : C ((stepL g t m vs ρ d st2).bind fun o st1 => (pushL n o st1).bind fun _ st3 => k st3))
    (N : ∀ mp4 H4 st4, Ext mp2 H3 mp4 H4 → RelM Γ mp4 H4 st4 → C (k st4) → Nx H4) :
    tN Γ us g x (wipe σ vs) H3 fun σ2 H2 => wipe σ2 vs = wipe σ vs ∧ tB' Γ W0 t σ2 H2 fun b H3 =>
      if b = true then tE Γ W0 m σ2 H3 fun y H4 => ∃ acc, H4 A = some (.lst acc) ∧ acc.length < sizeLine ∧ Nx (upd H4 A (.lst (acc ++ [y]))) else Nx H3 := by
  refine ⟨mp2, st2, wipeE ρ vs, d, R, wipeE_rel re vs, rd, ?_⟩
  unfold stepL at P2
  cases eg : g d (wipeE ρ vs) st2 with
  | nx ρ4 st4 =>
    simp only [eg] at P2
    intro mp4 H4 σ4 x4 R4 re4 l4 k4
    refine ⟨wipe_same l4 fun j hj => k4 j fun z => hj (hus j z), mp4, st4, ρ4, R4, re4, ?_⟩
    cases et : t ρ4 st4 with
    | bad => rw [et] at P2; exact (hC P2).elim
    | exc e s => rw [et] at P2; exact (hC P2).elim
    | ok b st5 =>
      simp only [et, Res.noX_ok, Res.ok_bind] at P2
      intro mp5 H5 b' x5 R5 rb
      cases rb
      have xx5 := x4.trans x5
      cases b with
      | false =>
        simp only [Bool.false_eq_true, if_false, Res.ok_bind, pushL] at P2
        rw [if_neg Bool.false_ne_true]
        exact N mp5 H5 st5 xx5 R5 P2
      | true =>
        simp only [if_true] at P2
        rw [if_pos rfl]
        refine ⟨mp5, st5, ρ4, R5, re4.ext x5, ?_⟩
        cases ee : m ρ4 st5 with
        | bad => rw [ee] at P2; exact (hC P2).elim
        | exc e s => rw [ee] at P2; exact (hC P2).elim
        | ok z st6 =>
          simp only [ee, Res.noX_ok, Res.ok_bind, pushL] at P2
          intro mp6 H6 v x6 R6 rz
          have xx6 := xx5.trans x6
          split at P2
          · rename_i acc hacc
            obtain ⟨vs', h1, h2⟩ := R6.cell _ _ A hacc (xx6.pre _ _ nA)
            split at P2
            · rename_i hl
              simp only [Res.ok_bind] at P2
              refine ⟨vs', h1, by rw [← h2.length, sizeLine_eq]; exact hl, N mp6 _ _ (xx6.trans (ext_write (List.mem_of_getElem? (xx6.pre _ _ nA)))) (R6.write (c := .lst (acc ++ [z])) (xx6.pre _ _ nA) h1 (show ∃ vs, _ = some (HO.lst vs) ∧ _ from ⟨_, upd_same, ?_⟩)) P2⟩
              exact RvL.ext (ext_write (List.mem_of_getElem? (xx6.pre _ _ nA))) _ _ (h2.append (RvL.cons rz RvL.nil))
            · exact (hC P2).elim
          · exact (hC P2).elim
  | _ => simp only [eg] at P2; exact (hC P2).elim

/-- the outer turn -/
def stepO (n : Nat) (g : MG) (t : MB) (mi1 : ML) (g1 : MG) (t1 : MB) (m : ME) (vs vs1 : List Nat) (ρ : Env) : D → Mem → Res Unit := fun d st => match g d (wipeE ρ vs) st with
  | .nx ρ1 st1 => (t ρ1 st1).noX.bind fun b st2 => if b = true then (mi1 ρ1 st2).noX.bind fun ds1 st3 => lcL n ds1 (stepL g1 t1 m vs1 ρ1) st3 else .ok () st2
  | _ => .bad
def lcO : List D → (D → Mem → Res Unit) → Mem → Res Unit
  | [], _, st => .ok () st
  | d :: ds, f, st => (f d st).bind fun _ st1 => lcO ds f st1
def mLC2 (fin : Mem → Mem → Res D) (mi : ML) (g : MG) (t : MB) (mi1 : ML) (g1 : MG) (t1 : MB) (m : ME) (vs vs1 : List Nat) : ME := fun ρ st => (mi ρ st).bind fun ds st1 => (lcO ds (stepO st1.length g t mi1 g1 t1 m vs vs1 ρ) (st1 ++ [.lst []])).bind fun _ st2 => fin st1 st2
theorem tLc2_of {Γ : Gm} {W : WX} {σ : L2.St} {H : Hp} {Q : VK} {fin : Mem → Mem → Res D} (hf : FinOk fin) {mi mi1 : ML} {g g1 : MG} {t t1 : MB} {m : ME} {vs us vs1 us1 : List Nat} (hus : ∀ j, j ∈ us → j ∈ vs) (hus1 : ∀ j, j ∈ us1 → j ∈ vs1) (h : tE Γ W (mLC2 fin mi g t mi1 g1 t1 m vs vs1) σ H Q) :
    tLc2 (tG Γ (WalkRel Γ) W mi) (tN Γ us g) (tB' Γ W0 t) (tG Γ (WalkRel Γ) W0 mi1) (tN Γ us1 g1) (tB' Γ W0 t1) (tE Γ W0 m) vs vs1 σ H Q := by
  obtain ⟨mp, st, ρ, R, re, P⟩ := tG_bind (Rel := WalkRel Γ) (m := mi) (k := fun ρ ds st1 => (lcO ds (stepO st1.length g t mi1 g1 t1 m vs vs1 ρ) (st1 ++ [.lst []])).bind fun _ st2 => fin st1 st2) h
  refine ⟨mp, st, ρ, R, re, P.mono fun J H1 ⟨mp1, st1, ρ1, ds, R1, re1, w1, P1⟩ A hA => ?_⟩
  have xA : Ext mp1 H1 (mp1 ++ [A]) (upd H1 A (.lst [])) := ext_cell hA
  have RA : RelM Γ (mp1 ++ [A]) (upd H1 A (.lst [])) (st1 ++ [.lst []]) := R1.push hA ⟨[], upd_same, RvL.nil⟩
  obtain ⟨G, Y, w, hG, hY⟩ := w1.ext xA
  have nA : (mp1 ++ [A])[st1.length]? = some A := by rw [← R1.len]; simp
  have hC : ¬ Post Γ mp1 H1 .bad Q (fun c d H' => W c d σ H') := fun z => z
  refine walk_it w (fun i H2 => ∃ mp2 st2, Ext (mp1 ++ [A]) (upd H1 A (.lst [])) mp2 H2 ∧ RelM Γ mp2 H2 st2 ∧
      Post Γ mp1 H1 ((lcO (ds.drop i) (stepO st1.length g t mi1 g1 t1 m vs vs1 ρ1) st2).bind fun _ st3 => fin st1 st3) Q (fun c d H' => W c d σ H'))
    ?start ?G ?turn ?fin
  case start => exact ⟨_, _, Ext.refl _ _, RA, P1⟩
  case G => exact fun i H2 _ ⟨mp2, _, x2, _⟩ => hG mp2 H2 x2
  case fin =>
    rintro H2 ⟨mp2, st2, x2, R2, P2⟩
    rw [List.drop_length] at P2
    simp only [lcO, Res.ok_bind] at P2
    exact hf Γ mp1 mp2 H1 H2 A st1 st2 Q _ R1 (x2.pre _ _ nA) (xA.trans x2) R2 P2
  case turn =>
    rintro i x H2 H3 hlt ⟨mp2, st2, x2, R2, P2⟩ y
    obtain ⟨sm, d, hd, rd⟩ := hY mp2 H2 st2 i x H3 x2 R2 hlt y
    have ed : ds.drop i = d :: ds.drop (i + 1) := by rw [List.drop_eq_getElem_cons hlt]; congr 1; rw [List.getElem?_eq_getElem hlt] at hd; exact Option.some.inj hd
    rw [ed] at P2
    have x3 : Ext mp2 H2 mp2 H3 := ext_same sm
    have xx3 := x2.trans x3
    refine ⟨mp2, st2, wipeE ρ1 vs, d, R2.same sm, wipeE_rel (re1.ext (xA.trans xx3)) vs, rd, ?_⟩
    unfold lcO at P2
    rw [Res.bind_assoc] at P2
    generalize ek : (fun (_ : Unit) (s : Mem) => (lcO (ds.drop (i + 1)) (stepO st1.length g t mi1 g1 t1 m vs vs1 ρ1) s).bind fun _ st3 => fin st1 st3) = k at P2
    unfold stepO at P2
    cases eg : g d (wipeE ρ1 vs) st2 with
    | nx ρ4 st4 =>
      simp only [eg] at P2
      intro mp4 H4 σ4 x4 R4 re4 l4 k4
      have xx4 := xx3.trans x4
      refine ⟨wipe_same l4 fun j hj => k4 j fun z => hj (hus j z), mp4, st4, ρ4, R4, re4, ?_⟩
      cases et : t ρ4 st4 with
      | bad => rw [et] at P2; exact P2.elim
      | exc e s => rw [et] at P2; exact P2.elim
      | ok b st5 =>
        simp only [et, Res.noX_ok, Res.ok_bind] at P2
        intro mp5 H5 b' x5 R5 rb
        cases rb
        have xx5 := xx4.trans x5
        cases b with
        | false =>
          simp only [Bool.false_eq_true, if_false, Res.ok_bind] at P2
          rw [if_neg Bool.false_ne_true]
          subst ek
          exact ⟨mp5, st5, xx5, R5, P2⟩
        | true =>
          simp only [if_true] at P2
          rw [if_pos rfl]
          have re5 := re4.ext x5
          refine ⟨mp5, st5, ρ4, R5, re5, ?_⟩
          cases ei : mi1 ρ4 st5 with
          | bad => rw [ei] at P2; exact P2.elim
          | exc e s => rw [ei] at P2; exact P2.elim
          | ok ds1 st6 =>
            simp only [ei, Res.noX_ok, Res.ok_bind] at P2
            intro mp6 H6 J1 x6 R6 w6
            obtain ⟨G1, Y1, w1, hG1, hY1⟩ := w6
            have xx6 := xx5.trans x6
            refine walk_it w1 (fun j H7 => ∃ mp7 st7, Ext mp6 H6 mp7 H7 ∧ RelM Γ mp7 H7 st7 ∧
                Post Γ mp1 H1 ((lcL st1.length (ds1.drop j) (stepL g1 t1 m vs1 ρ4) st7).bind k) Q (fun c d H' => W c d σ H')) ?_ ?_ ?_ ?_
            · exact ⟨mp6, st6, Ext.refl _ _, R6, by simpa using P2⟩
            · exact fun j H7 _ ⟨mp7, _, x7, _⟩ => hG1 mp7 H7 x7
            · rintro j z H7 H8 hlt1 ⟨mp7, st7, x7, R7, P7⟩ y7
              obtain ⟨sm7, d7, hd7, rd7⟩ := hY1 mp7 H7 st7 j z H8 x7 R7 hlt1 y7
              have ed7 : ds1.drop j = d7 :: ds1.drop (j + 1) := by rw [List.drop_eq_getElem_cons hlt1]; congr 1; rw [List.getElem?_eq_getElem hlt1] at hd7; exact Option.some.inj hd7
              rw [ed7] at P7
              have x8 : Ext mp7 H7 mp7 H8 := ext_same sm7
              refine turn_step (C := fun r => Post Γ mp1 H1 r Q (fun c d H' => W c d σ H')) hC (n := st1.length) (k := fun s => (lcL st1.length (ds1.drop (j + 1)) (stepL g1 t1 m vs1 ρ4) s).bind k) hus1 ((xx6.trans x7).pre _ _ nA) (R7.same sm7) (re5.ext (x6.trans (x7.trans x8))) rd7 ?_ fun mp9 H9 st9 x9 R9 P9 => ⟨mp9, st9, (x7.trans x8).trans x9, R9, P9⟩
              have P8 := P7
              unfold lcL at P8
              simpa only [Res.bind_assoc] using P8
            · rintro H7 ⟨mp7, st7, x7, R7, P7⟩
              rw [List.drop_length] at P7
              simp only [lcL, Res.ok_bind] at P7
              subst ek
              exact ⟨mp7, st7, xx6.trans x7, R7, P7⟩
    | _ => simp only [eg] at P2; exact P2.elim
section
variable {X : Cx} {elt tg iter tg1 iter1 : Expr} {ifs ifs1 : List Expr} {scope : Scope} {own : List (Str × Nat)} {pos : Pos} {mi mi1 : ML} {g g1 : MG} {t t1 : MB} {m : ME} {us us1 vs1 : List Nat} {k : Nat} {fin : Mem → Mem → Res D}
theorem se_lc2 (hf : FinOk fin) (c : XC k X) (hi : SI X tg iter mi) (ok : blkC X.N X.env.scope scope own = true) (hus : ∀ j, j ∈ us → j ∈ own.map (·.2)) (hv : ∀ i ∈ vs1, i ∈ own.map (·.2)) (hus1 : ∀ j, j ∈ us1 → j ∈ vs1)
    (hg : ∀ (s : Shared) (H : Hp) (C : Addr) (cl : List (Str × Addr)) (fp : List Addr), XC k (X.blk s H scope (compEnvC scope cl C X.env) fp) → SG (X.blk s H scope (compEnvC scope cl C X.env) fp) tg us g)
    (ht : ∀ (s : Shared) (H : Hp) (C : Addr) (cl : List (Str × Addr)) (fp : List Addr), XC k (X.blk s H scope (compEnvC scope cl C X.env) fp) → STs (X.blk s H scope (compEnvC scope cl C X.env) fp) ifs t)
    (hi1 : ∀ (s : Shared) (H : Hp) (C : Addr) (cl : List (Str × Addr)) (fp : List Addr), XC k (X.blk s H scope (compEnvC scope cl C X.env) fp) → SI (X.blk s H scope (compEnvC scope cl C X.env) fp) tg1 iter1 mi1)
    (hg1 : ∀ (s : Shared) (H : Hp) (C : Addr) (cl : List (Str × Addr)) (fp : List Addr), XC k (X.blk s H scope (compEnvC scope cl C X.env) fp) → SG (X.blk s H scope (compEnvC scope cl C X.env) fp) tg1 us1 g1)
    (ht1 : ∀ (s : Shared) (H : Hp) (C : Addr) (cl : List (Str × Addr)) (fp : List Addr), XC k (X.blk s H scope (compEnvC scope cl C X.env) fp) → STs (X.blk s H scope (compEnvC scope cl C X.env) fp) ifs1 t1)
    (he : ∀ (s : Shared) (H : Hp) (C : Addr) (cl : List (Str × Addr)) (fp : List Addr), XC k (X.blk s H scope (compEnvC scope cl C X.env) fp) → SE (X.blk s H scope (compEnvC scope cl C X.env) fp) elt m)
    (hs : ∀ x, foldedSetIterable iter X.env x = pure x := by intro _; rfl) (hs1 : ∀ env x, foldedSetIterable iter1 env x = pure x := by intro _ _; rfl) :
    SE X (.ListComp elt [⟨tg, iter, ifs, 0⟩, ⟨tg1, iter1, ifs1, 0⟩] scope pos) (mLC2 fin mi g t mi1 g1 t1 m (own.map (·.2)) vs1) :=
  ⟨fun W tk => PE.imp (pe_lc2 (own := own) (vs1 := vs1) c.calm c.nd (hi.run W tk) (blkOk_by ok) hv (fun s H C cl fp => (hg s H C cl fp (c.blk _ _ _ _ _)).run) (fun s H C cl fp => (ht s H C cl fp (c.blk _ _ _ _ _)).run W0 takes0)
      (fun s H C cl fp => (hi1 s H C cl fp (c.blk _ _ _ _ _)).run W0 takes0) (fun s H C cl fp => (hg1 s H C cl fp (c.blk _ _ _ _ _)).run) (fun s H C cl fp => (ht1 s H C cl fp (c.blk _ _ _ _ _)).run W0 takes0)
      (fun s H C cl fp => (he s H C cl fp (c.blk _ _ _ _ _)).run W0 takes0) hs hs1)
    fun σ H Q q => tLc2_of hf hus hus1 q⟩
theorem s_setLc2 {i : Nat} {y : Str} {py spos : Pos} (hf : FinOk fin) (c : XC k X) (hy : X.N[i]? = some y) (hyl : X.env.scope.names.lookup y = some .local)
    (hsw : swapsWith (.ListComp elt [⟨tg, iter, ifs, 0⟩, ⟨tg1, iter1, ifs1, 0⟩] scope pos) (some (.Name y py)) spos.line X.env = pure true) (hi : SI X tg iter mi) (ok : blkC X.N X.env.scope scope own = true) (hus : ∀ j, j ∈ us → j ∈ own.map (·.2)) (hv : ∀ i ∈ vs1, i ∈ own.map (·.2)) (hus1 : ∀ j, j ∈ us1 → j ∈ vs1)
    (hg : ∀ (s : Shared) (H : Hp) (C : Addr) (cl : List (Str × Addr)) (fp : List Addr), XC k (X.blk s H scope (compEnvC scope cl C X.env) fp) → SG (X.blk s H scope (compEnvC scope cl C X.env) fp) tg us g)
    (ht : ∀ (s : Shared) (H : Hp) (C : Addr) (cl : List (Str × Addr)) (fp : List Addr), XC k (X.blk s H scope (compEnvC scope cl C X.env) fp) → STs (X.blk s H scope (compEnvC scope cl C X.env) fp) ifs t)
    (hi1 : ∀ (s : Shared) (H : Hp) (C : Addr) (cl : List (Str × Addr)) (fp : List Addr), XC k (X.blk s H scope (compEnvC scope cl C X.env) fp) → SI (X.blk s H scope (compEnvC scope cl C X.env) fp) tg1 iter1 mi1)
    (hg1 : ∀ (s : Shared) (H : Hp) (C : Addr) (cl : List (Str × Addr)) (fp : List Addr), XC k (X.blk s H scope (compEnvC scope cl C X.env) fp) → SG (X.blk s H scope (compEnvC scope cl C X.env) fp) tg1 us1 g1)
    (ht1 : ∀ (s : Shared) (H : Hp) (C : Addr) (cl : List (Str × Addr)) (fp : List Addr), XC k (X.blk s H scope (compEnvC scope cl C X.env) fp) → STs (X.blk s H scope (compEnvC scope cl C X.env) fp) ifs1 t1)
    (he : ∀ (s : Shared) (H : Hp) (C : Addr) (cl : List (Str × Addr)) (fp : List Addr), XC k (X.blk s H scope (compEnvC scope cl C X.env) fp) → SE (X.blk s H scope (compEnvC scope cl C X.env) fp) elt m)
    (hs : ∀ x, foldedSetIterable iter X.env x = pure x := by intro _; rfl) (hs1 : ∀ env x, foldedSetIterable iter1 env x = pure x := by intro _ _; rfl) :
    SS X (.Assign [.Name y py] (.ListComp elt [⟨tg, iter, ifs, 0⟩, ⟨tg1, iter1, ifs1, 0⟩] scope pos) spos) (sSet i (mLC2 fin mi g t mi1 g1 t1 m (own.map (·.2)) vs1)) :=
  ⟨fun W tk => PS.imp (ps_setLc2 (own := own) (vs1 := vs1) c.calm c.nd hy hyl hsw (hi.run W tk) (blkOk_by ok) hv (fun s H C cl fp => (hg s H C cl fp (c.blk _ _ _ _ _)).run) (fun s H C cl fp => (ht s H C cl fp (c.blk _ _ _ _ _)).run W0 takes0)
      (fun s H C cl fp => (hi1 s H C cl fp (c.blk _ _ _ _ _)).run W0 takes0) (fun s H C cl fp => (hg1 s H C cl fp (c.blk _ _ _ _ _)).run) (fun s H C cl fp => (ht1 s H C cl fp (c.blk _ _ _ _ _)).run W0 takes0)
      (fun s H C cl fp => (he s H C cl fp (c.blk _ _ _ _ _)).run W0 takes0) hs hs1)
    fun E σ H q => by
      obtain ⟨mp, st, ρ, R, re, P⟩ := q
      have q2 : tE (gm X) W (mLC2 fin mi g t mi1 g1 t1 m (own.map (·.2)) vs1) σ H (fun x H1 => gName i x σ H1 E.nx) := ⟨mp, st, ρ, R, re, (P.toS re).mono fun x H1 ⟨mp1, st1, d, _, _, R1, r1, re1, P1⟩ => P1 mp1 H1 _ (Ext.refl _ _) R1 (re1.set i r1)⟩
      exact tLc2_of hf hus hus1 q2⟩
end
end VI
set_option maxHeartbeats 4000000
/-! VI 17: sorted over lists, tuples, dicts; of ints, texts, tuples of these. -/
namespace VI
open PySem PySem.Spec PyProof.Rows L2 PySem.Calls

section
variable {prog : Program} {w : World} {A : Around} {E : Value → Shared → Prop} {s : Shared}
theorem collect_tuple {l : Addr} {vs : List Value} {Q : List Value → Shared → Prop} (hl : s.heap.IsTuple l vs.toArray)
    (h : Q vs { s with heap := (s.heap.push (seqObj "list" #[] 0)).update s.heap.objs.size (Obj.mapSeq (· ++ vs.toArray)) }) (hsz : vs.length ≤ sizeLine) :
    wpAny (model prog w) A (collect (.ref l)) Q E s := by
  obtain ⟨o, ho, hc, n, hd⟩ := id hl
  unfold collect
  refine wpAny_bind (wpAny_runValue (codeAny_builtin entry_proto_collect' ?_))
  show wpAny _ _ (do again (.builtin "list.__iadd__" ⟨[← newList [], .ref l], []⟩)) _ _ s
  refine wpAny_bind (wpAny_newList (wpAny_pure ⟨Code.quiet_builtin _ (by decide +kernel), codeAny_builtin entry_list_iadd' ?_⟩))
  show wpAny _ _ (Builtin.List.listExtendWith (.ref s.heap.objs.size) (.ref l) (.ref s.heap.objs.size)) _ _ { s with heap := s.heap.push (seqObj "list" #[] 0) }
  unfold Builtin.List.listExtendWith
  have ho' : (s.heap.push (seqObj "list" #[] 0)).get? l = some o := Heap.get?_push_of_some _ ho
  refine wpAny_bind (wpAny_typeOf (T := "tuple") ⟨o, ho', hc⟩ ?_)
  have ht : (Value.type "tuple" == Value.type "tuple") = true := by rfl
  rw [if_pos (by rw [ht]; simp)]
  refine wpAny_bind (listItems_at ho' hd ?_)
  refine wpAny_bind (listItems_at (xs := #[]) (n := 0) (Heap.get?_push_size _ rfl) rfl ?_)
  rw [if_neg (by simp)]
  refine wpAny_bind (listUpdate_at (xs := #[]) (n := 0) (Heap.get?_push_size _ rfl) rfl ?_ (Nat.zero_le _) (by show (#[] ++ vs.toArray).size ≤ sizeLine + 1; simp only [Array.size_append, List.size_toArray, List.length_nil]; omega))
  refine wpAny_pure ?_
  show wpAny (model prog w) A (do
      let o ← load s.heap.objs.size
      match o.data with
      | .seq xs _ => pure xs.toList
      | _ => unsupported "internal:collect") Q E { s with heap := (s.heap.push (seqObj "list" #[] 0)).update s.heap.objs.size (Obj.mapSeq (· ++ vs.toArray)) }
  refine wpAny_bind (wpAny_load (get?_update_seq (Heap.get?_push_size _ rfl) _) ?_)
  show wpAny _ _ (pure ((#[] : Array Value) ++ vs.toArray).toList) Q E _
  rw [show ((#[] : Array Value) ++ vs.toArray).toList = vs by simp]
  exact wpAny_pure h
/-- list(v)'s items, at a heap that keeps all -/
def Coll (prog : Program) (w : World) (A : Around) (v : Value) (s : Shared) (P : List Value → Prop) : Prop :=
  ∀ (Q : List Value → Shared → Prop) (E : Value → Shared → Prop), (∀ (h' : Heap) (tk : Nat) (vs : List Value), (∀ b o, s.heap.get? b = some o → h'.get? b = some o) → P vs → Q vs { s with heap := h', toks := tk }) → wpAny (model prog w) A (collect v) Q E s
theorem push_upd_keep {h : Heap} {f : Obj → Obj} {o' : Obj} (b : Addr) (o : Obj) (e : h.get? b = some o) : ((h.push o').update h.objs.size f).get? b = some o := by
  rw [Heap.get?_update_ne _ _ _ _ (Nat.ne_of_lt (Heap.lt_size e))]
  exact Heap.get?_push_of_some _ e
theorem coll_B {k : Bool} {l : Addr} {vs : List Value} (hl : IsB s.heap k l vs.toArray) (hz : vs.length ≤ sizeLine) : Coll prog w A (.ref l) s (· = vs) := by
  intro Q E h
  have key := h ((s.heap.push (seqObj "list" #[] 0)).update s.heap.objs.size (Obj.mapSeq (· ++ vs.toArray))) s.toks vs push_upd_keep rfl
  cases k with
  | true => exact collect_tuple (by simpa only [IsB, if_true] using hl) key hz
  | false => exact collect_list (by simpa only [IsB, Bool.false_eq_true, if_false] using hl) key hz
theorem coll_D {d : Addr} {es : Array DictEntry} {ep : Nat} (hh : A.handled = none) (lo : (d == sysModules) = false) (hm : s.heap.DictRaw d es ep) (hz : es.size ≤ sizeLine) : Coll prog w A (.ref d) s (· = es.toList.map (·.key)) := by
  intro Q E h
  refine PySem.W.kdu_collect (KdlSrc.rawDict lo) hh hm hz fun h' tk acc hk ha => h h' tk _ hk ?_
  have hl : acc.toList.length = es.toList.length := by rw [Array.length_toList, Array.length_toList]; exact ha.1
  apply List.ext_getElem?
  intro j
  by_cases hj : j < acc.toList.length
  · obtain ⟨hi, e⟩ := ha.2 j acc.toList[j] (by rw [← Array.getElem?_toList, List.getElem?_eq_getElem hj])
    rw [List.getElem?_eq_getElem hj, e]
    simp [List.getElem?_map, hi]
  · rw [List.getElem?_eq_none (by omega), List.getElem?_eq_none (by rw [List.length_map]; omega)]
/-- sorted(v) up to the sort -/
theorem sorted_coll {v : Value} {P : List Value → Prop} {Q : Value → Shared → Prop} (hc : Coll prog w A.in1 v s P) (hP : ∀ vs, P vs → vs.length ≤ sizeLine)
    (h : ∀ (h' : Heap) (tk : Nat) (vs : List Value), (∀ b o, s.heap.get? b = some o → h'.get? b = some o) → P vs →
      wpAny (model prog w) A.in1 (call (.builtin "list.sort") [.ref h'.objs.size]) (fun _ s' => Q (.ref h'.objs.size) s') E { s with heap := h'.push (seqObj "list" vs.toArray 0), toks := tk }) :
    wpAny (model prog w) A (call (.builtin "sorted") [v]) Q E s := by
  refine call_function_entry kind_sorted plain_sorted entry_sorted (args_sorted1 _) ?_
  unfold Builtin.«sorted»
  refine wpAny_bind (m := checkCount "sorted" 1 1 _) (wpAny_pure ?_)
  refine wpAny_bind (hc _ _ fun h' tk vs hk pv => ?_)
  refine wpAny_bind (wpAny_newList ?_ (hP vs pv))
  have hg := h h' tk vs hk pv
  refine wpAny_bind (wpAny_holding (wpAny_mono hg (fun _ s' x => ?_) fun _ _ e => e))
  exact wpAny_pure ⟨_, rfl, x⟩
end

/-! ### as a rule -/
def kP : Key → PyData
  | .inl i => .int i
  | .inr x => .str x
/-- how an item that is sorted reads -/
def RdV (K : PySem.W.Frag) (H : Hp) (x : V) (d : PyData) : Prop := (∃ k : Key, x = L2.kV k ∧ d = kP k) ∨ ∃ (a : Addr) (ks : List Key), x = .ref a ∧ SqT K H a (ks.map L2.kV) ∧ d = .tuple (ks.map kP)
/-- what is sorted: S, what its items may be -/
def SrcV (K : PySem.W.Frag) (H : Hp) (x : V) (S : List V → Prop) : Prop := (∃ (k : Bool) (a : Addr) (es : List V), x = .ref a ∧ SqB K H k a es ∧ S = (· = es)) ∨
  (∃ (a : Addr) (kvs : List (List Key × V)), x = .ref a ∧ Rd H a (.dT kvs) ∧ S = fun es => es.length = kvs.length ∧ ∀ (i : Nat) (p : List Key × V), kvs[i]? = some p → ∃ b, es[i]? = some (.ref b) ∧ H b = some (.tup (p.1.map L2.kV))) ∨
  ∃ (a : Addr) (kvs : List (Key × V)), x = .ref a ∧ Rd H a (.dK kvs) ∧ S = (· = kvs.map fun p => L2.kV p.1)
theorem reads_key {h : Heap} {k : Key} {u : Value} (r : RelV (L2.kV k) u) : Reads h u (kP k) [] := by
  cases k with
  | inl i => obtain ⟨t, rfl⟩ := r; exact .int _ _
  | inr x => obtain ⟨t, rfl⟩ := r; exact .str _ _
theorem reads_keys {h : Heap} : ∀ {ks : List Key} {us : List Value}, Vals (ks.map L2.kV) us → ReadsAll h us (ks.map kP) []
  | [], us, r => by rw [List.map_nil] at r; cases r; exact .nil
  | k :: ks, us, r => by
    rw [List.map_cons] at r
    cases r with
    | cons r1 r2 => exact ReadsAll.cons (as := []) (bs := []) (reads_key r1) (reads_keys r2)
theorem RdV.reads {X : Cx} {pins : List (Addr × Obj)} {σ : L2.St} {H : Hp} {s : Shared} (I : Inv X pins σ H s) {x : V} {d : PyData} {u : Value} (h : RdV X.K H x d) (r : RelV x u) : Reads s.heap u d [] := by
  rcases h with ⟨k, rfl, rfl⟩ | ⟨a, ks, rfl, q, rfl⟩
  · exact reads_key r
  · cases r
    obtain ⟨its, rv, p, _⟩ := I.tuple q
    obtain ⟨o, ho, hc, n, hd⟩ := (show s.heap.IsTuple a its.toArray from p)
    exact .tuple ho hc hd (by simpa using reads_keys rv)
theorem depth_keys : ∀ ks : List Key, PyData.depthAll (ks.map kP) = 0
  | [] => by simp [PyData.depthAll]
  | k :: ks => by
    rw [List.map_cons, PyData.depthAll, depth_keys ks]
    cases k <;> simp [kP, PyData.depth]
theorem RdV.depth {K : PySem.W.Frag} {H : Hp} {x : V} {d : PyData} (h : RdV K H x d) : d.depth ≤ 1 := by
  rcases h with ⟨k, rfl, rfl⟩ | ⟨a, ks, rfl, q, rfl⟩
  · cases k <;> simp [kP, PyData.depth]
  · simp [PyData.depth, depth_keys]
def rSortA (K : PySem.W.Frag) : List V → Hp → VK → Prop := fun xs H Q => ∃ (x : V) (S : List V → Prop), xs = [x] ∧ SrcV K H x S ∧ ∀ es, S es → ∃ bs : List (V × PyData), bs.map (·.1) = es ∧ (∀ b ∈ bs, RdV K H b.1 b.2) ∧
  ((PySem.W.AllAlike (bs.map (·.2)) ∧ PySem.W.Sortable (bs.map (·.2))) ∨ es.length ≤ 1) ∧ ∀ p, H p = none → Q (.ref p) (upd H p (.lst ((bs.mergeSort (PySem.W.dataLe false (·.2))).map (·.1))))
theorem paired_get {α β : Type} {F : α → β → Prop} : ∀ {l₁ : List α} {l₂ : List β} {i : Nat} {x : α}, Paired F l₁ l₂ → l₁[i]? = some x → ∃ y, l₂[i]? = some y ∧ F x y
  | _, _, _, _, .nil, e => by simp at e
  | _, _, 0, _, .cons r _, e => by simp at e; subst e; exact ⟨_, rfl, r⟩
  | _, _, i + 1, _, .cons _ t, e => by simp at e; obtain ⟨y, h, r⟩ := paired_get t e; exact ⟨y, by simpa using h, r⟩
theorem refs_vals : ∀ xs : List (List Key × Addr × Value), Vals (xs.map fun x => V.ref x.2.1) (xs.map fun x => Value.ref x.2.1)
  | [] => .nil
  | x :: xs => .cons rfl (refs_vals xs)
theorem vals_of_get : ∀ {xs : List V} {us : List Value}, xs.length = us.length → (∀ (i : Nat) (x : V) (u : Value), xs[i]? = some x → us[i]? = some u → RelV x u) → Vals xs us
  | [], [], _, _ => .nil
  | [], _ :: _, h, _ => by simp at h
  | _ :: _, [], h, _ => by simp at h
  | x :: xs, u :: us, h, q => .cons (q 0 x u rfl rfl) (vals_of_get (by simpa using h) fun i x' u' h1 h2 => q (i + 1) x' u' (by simpa using h1) (by simpa using h2))
theorem src_coll {X : Cx} {pins : List (Addr × Obj)} {σ : L2.St} {H : Hp} {s : Shared} (hc : X.calm = true) (I : Inv X pins σ H s) {x : V} {u : Value} {S : List V → Prop} (h : SrcV X.K H x S) (r : RelV x u) :
    Coll X.prog X.w X.A.in1 u s (fun vs => ∃ es, S es ∧ Vals es vs ∧ vs.length ≤ sizeLine) := by
  have hh : X.A.in1.handled = none := I.ok.hd hc
  rcases h with ⟨k, a, es, rfl, q, rfl⟩ | ⟨a, kvs, rfl, q, rfl⟩ | ⟨a, kvs, rfl, q, rfl⟩
  · cases r
    obtain ⟨its, rv, p⟩ := invB I q
    have hz : its.length ≤ sizeLine := by
      cases k with
      | true => simp only [SqB, if_true] at q; obtain ⟨its', rv', _, z⟩ := I.tuple q; rw [← rv.length]; exact z
      | false => simp only [SqB, Bool.false_eq_true, if_false] at q; obtain ⟨its', rv', _, z⟩ := I.list q; rw [← rv.length]; exact z
    exact fun Q E h => coll_B p hz Q E fun h' tk vs hk e => h h' tk vs hk ⟨es, rfl, by rw [e]; exact rv, by rw [e]; exact hz⟩
  · cases r
    obtain ⟨z, lo, xs, kt, o, es, ep, ho, hx, hd, he, _, _⟩ := dt_rd I.hok q
    have hl : es.toList.length = kvs.length := by rw [he, List.length_map]; exact (Paired.length kt).symm
    have hz : es.size ≤ sizeLine := by rw [← Array.length_toList, hl]; exact z
    refine fun Q E h => coll_D hh lo ⟨o, ho, hx, hd⟩ hz Q E fun h' tk vs hk e => ?_
    subst e
    have hv : es.toList.map (·.key) = xs.map fun x => Value.ref x.2.1 := by rw [he, List.map_map]; rfl
    refine h h' tk _ hk ⟨xs.map fun x => V.ref x.2.1, ⟨by rw [List.length_map]; exact (Paired.length kt).symm, fun i p hp => ?_⟩, ?_, by rw [List.length_map, Array.length_toList]; exact hz⟩
    · obtain ⟨y, hy, e1, e2, _⟩ := paired_get kt hp
      exact ⟨y.2.1, by rw [List.getElem?_map, hy]; rfl, e2⟩
    · rw [hv]
      exact refs_vals xs
  · cases r
    obtain ⟨z, lo, vs, rel, dd⟩ := dk_rd I.hok q
    obtain ⟨ep, hat⟩ := dd.dictAt
    have hl : vs.length = kvs.length := (Paired.length rel).symm
    refine fun Q E h => PySem.W.kdu_collect (PySem.W.kdl_dict (knd := mixKind X.prog X.w) (kvs := vs) (ep := ep) lo) hh hat (by rw [hl]; exact z) fun h' tk acc hk ha => h h' tk _ hk ⟨_, rfl, ?_, by rw [Array.length_toList]; exact (by have e := ha.1.trans hl; exact e.symm ▸ z)⟩
    refine vals_of_get (by rw [List.length_map, Array.length_toList]; exact (ha.1.trans hl).symm) fun i x u hx hu => ?_
    rw [List.getElem?_map] at hx
    cases hp : kvs[i]? with
    | none => rw [hp] at hx; cases hx
    | some p =>
      rw [hp] at hx
      have hx' : L2.kV p.1 = x := Option.some.inj hx
      obtain ⟨y, hy, e1, e2⟩ := paired_get rel hp
      obtain ⟨k, v, e3, e4⟩ := ha.2 i u (by rw [← Array.getElem?_toList]; exact hu)
      rw [hy] at e3
      have ek : y.1 = k := by rw [Option.some.inj e3]
      rw [← hx', e1, ek]
      rcases keyIs_shape (show keyIs k u = true from e4) with ⟨j, t, ek, ev⟩ | ⟨w', t, ek, ev⟩
      · subst ek ev; exact ⟨t, rfl⟩
      · subst ek ev; exact ⟨t, rfl⟩
theorem swo_none {α : Type} : SrtO.Swo (fun (_ _ : α) => false) := by
  constructor
  · intro x y h; cases h
  · intros; rfl
theorem each_vals {R : V → Value → Prop} : ∀ {bs : List (V × PyData)} {vs : List Value}, Vals (bs.map (·.1)) vs → PySem.W.EachIs (fun v (b : V × PyData) => RelV b.1 v) vs bs
  | [], _, r => by rw [List.map_nil] at r; cases r; exact .nil
  | b :: bs, _, r => by
    rw [List.map_cons] at r
    cases r with
    | cons r1 r2 => exact .cons r1 (each_vals (R := R) r2)
theorem vals_each : ∀ {bs : List (V × PyData)} {vs : List Value}, PySem.W.EachIs (fun v (b : V × PyData) => RelV b.1 v) vs bs → Vals (bs.map (·.1)) vs
  | _, _, .nil => .nil
  | _, _, .cons r t => .cons r (vals_each t)
theorem each_reads {h : Heap} : ∀ {bs : List (V × PyData)} {vs : List Value} {a : Addr}, PySem.W.EachIs (fun v (b : V × PyData) => RelV b.1 v) vs bs → (∀ b ∈ bs, ∀ u, RelV b.1 u → Reads h u b.2 []) →
    PySem.W.EachIs (fun v b => ∃ as, Reads h v b.2 as ∧ a ∉ as) vs bs
  | _, _, _, .nil, _ => .nil
  | _, _, _, .cons r t, q => .cons ⟨[], q _ (List.mem_cons_self ..) _ r, by simp⟩ (each_reads t fun b hb => q b (List.mem_cons_of_mem _ hb))
theorem cr_sortedA {X : Cx} (hc : X.calm = true) (hu : X.A.units + 64 < cLine) : CallR X (.builtin "sorted") (rSortA X.K) := by
  intro pins s σ H xs us Q I r h
  obtain ⟨x, S, rfl, src, q⟩ := h
  obtain ⟨u, rfl, ru⟩ := vals1 r
  refine sorted_coll (src_coll hc I src ru) (fun vs ⟨_, _, _, z⟩ => z) fun h' tk vs hk ⟨es, hs, rv, hz⟩ => ?_
  obtain ⟨bs, e, rd, alt, q⟩ := q es hs
  subst e
  have I1 : Inv X pins σ H { s with heap := h', toks := tk } := I.kept hk
  have hoL : (h'.push (seqObj "list" vs.toArray 0)).get? h'.objs.size = some (seqObj "list" vs.toArray 0) := Heap.get?_push_size _ rfl
  have ev := each_vals (R := fun _ _ => True) rv
  have hl : bs.length = vs.length := by rw [← rv.length, List.length_map]
  have fin : ∀ (out : List Value) (bs' : List (V × PyData)), PySem.W.EachIs (fun v (b : V × PyData) => RelV b.1 v) out bs' → bs' = bs.mergeSort (PySem.W.dataLe false (·.2)) →
      EP X pins σ Q (.ref h'.objs.size) { s with heap := sortedHeap (h'.push (seqObj "list" vs.toArray 0)) h'.objs.size vs out.toArray, toks := tk } := fun out bs' eo eb => by
    subst eb
    obtain ⟨e', he'⟩ := sortedHeap_at (vs := vs) (out := out.toArray) hoL
    have hlen : ((bs.mergeSort (PySem.W.dataLe false (·.2))).map (·.1)).length ≤ sizeLine := by rw [List.length_map, List.length_mergeSort, hl]; exact hz
    refine ⟨.ref h'.objs.size, _, I1.laid (t' := tk) (fun b u e => ?_) (Nat.le_refl _) (show ObjOk X.prog X.w _ _ _ (.lst ((bs.mergeSort (PySem.W.dataLe false (·.2))).map (·.1))) from ⟨hlen, out, e', vals_each eo, he'⟩), rfl, q _ (I1.hok.fresh (Nat.le_refl _))⟩
    have hb : b < h'.objs.size := Heap.lt_size e
    rw [sortedHeap_old (Nat.ne_of_lt hb) (by rw [size_push']; exact Nat.lt_succ_of_lt hb)]
    exact Heap.get?_push_of_some _ e
  rcases alt with ⟨al, so⟩ | one
  · refine PySem.W.list_sort_data (s := { s with heap := h'.push (seqObj "list" vs.toArray 0), toks := tk }) (enc := fun b : V × PyData => b.2) hoL ev (each_reads ev fun b hb u r => ?_) al so (by rw [hl]; exact hz) (fun b hb => ?_) fun out ho eo => fin out _ eo rfl
    · exact PyProof.Rows.Reads.keeps (fun _ _ e => Heap.get?_push_of_some _ e) ((rd b hb).reads I1 r)
    · have := (rd b hb).depth
      show X.A.in1.units + 1 + b.2.depth < cLine
      rw [show X.A.in1.units = X.A.units + 1 from rfl]
      omega
  · rw [List.length_map] at one
    refine wpAny_call_entry slot_list_sort ⟨_, hoL, rfl⟩ entry_list_sort (SrtO.list_sort_ord (s := { s with heap := h'.push (seqObj "list" vs.toArray 0), toks := tk }) swo_none hoL hz (fun h2 => absurd h2 (by omega)) fun out h1 h2 => ⟨.none, rfl, ?_⟩) (args_list_sort _)
    have eo : out = vs := by
      have p := h2.perm
      match vs, hl with
      | [], _ => exact p.eq_nil
      | [v], _ => exact p.eq_singleton
      | v :: v' :: r, hl => exfalso; simp at hl; omega
    have eb : bs.mergeSort (PySem.W.dataLe false (·.2)) = bs := by
      match bs, one with
      | [], _ => simp
      | [b], _ => simp
      | b :: b' :: r, h => simp at h
    rw [eo]
    exact fin vs bs ev eb.symm

/-! ### the reading -/
def intsL : List D → Option (List Int)
  | [] => some []
  | .int i :: r => (intsL r).map (i :: ·)
  | _ => none
/-- the ints by which an item is sorted -/
def sKey : D → Option (List Int)
  | .int i => some [i]
  | .tup xs => intsL xs
  | .kt xs => intsL xs
  | _ => none
def isIntD : D → Bool
  | .int _ => true
  | _ => false
def sLe (a b : D) : Bool := decide ((sKey a).getD [] ≤ (sKey b).getD [])
def sortL (xs : List D) : List D := xs.mergeSort sLe
def srtOk (xs : List D) : Bool := xs.all (fun d => (sKey d).isSome) && (xs.all isIntD || xs.all (fun d => !isIntD d && decide ((sKey d).getD [] ≠ [])) || decide (xs.length ≤ 1))
def kDd : Key → D
  | .inl i => .int i
  | .inr x => .str x
def srcD (d : D) (st : Mem) : Option (List D) := match d with
  | .loc n => (match st[n]? with
    | some (.lst xs) => some xs
    | some (.dK kvs) => some (kvs.map fun p => kDd p.1)
    | some (.dT kvs) => some (kvs.map fun p => D.tup (p.1.map kDd))
    | _ => none)
  | .dct ks xs => if ks.length = xs.length then some (ks.map kDd) else none
  | d => seqD d st
def sortedD : F1 := fun d st => match srcD d st with
  | some xs => if srtOk xs then .ok (.lst (sortL xs)) st else .bad
  | none => .bad
theorem tup_free {Γ : Gm} {mp : List Addr} {H : Hp} {st : Mem} (R : RelM Γ mp H st) {b : Addr} {xs : List V} (h : H b = some (.tup xs)) : b ∉ mp := fun z => by
  obtain ⟨n, hn, e⟩ := List.mem_iff_getElem.mp z
  have hm : mp[n]? = some b := by rw [List.getElem?_eq_getElem hn, e]
  have hs : n < st.length := by rw [← R.len]; exact hn
  have q := R.cell n st[n] b (List.getElem?_eq_getElem hs) hm
  cases hc : st[n] with
  | lst ys => rw [hc] at q; obtain ⟨vs, h1, _⟩ := q; rw [h] at h1; cases h1
  | dK ys => rw [hc] at q; obtain ⟨vs, h1, _⟩ := q; rw [h] at h1; cases h1
  | dT ys => rw [hc] at q; obtain ⟨vs, h1, _⟩ := q; rw [h] at h1; cases h1
  | ins c ys => rw [hc] at q; obtain ⟨C, dx, vs, h1, _⟩ := q; rw [h] at h1; cases h1
  | xo c ys =>
    rw [hc] at q
    obtain ⟨C, _, ⟨_, h1⟩ | ⟨d, vs, h1, _⟩⟩ := q
    · rw [h] at h1; exact absurd (Option.some.inj h1) (fun z => by cases (z : HO.tup xs = HO.ext _))
    · rw [h] at h1; exact absurd (Option.some.inj h1) (fun z => by cases (z : HO.tup xs = HO.ext _))
  | tmp => rw [hc] at q; obtain ⟨vs, h1⟩ := q; rw [h] at h1; cases h1
theorem kDd_rv {Γ : Gm} {mp : List Addr} {H : Hp} (k : Key) : Rv Γ mp H (kDd k) (L2.kV k) := by cases k <;> simp [kDd, L2.kV, Rv]
theorem kDd_rvl {Γ : Gm} {mp : List Addr} {H : Hp} : ∀ ks : List Key, RvL Γ mp H (ks.map kDd) (ks.map L2.kV)
  | [] => RvL.nil
  | k :: ks => RvL.cons (kDd_rv k) (kDd_rvl ks)
/-- what a D that is sorted reads as -/
def sPy (d : D) : PyData := match d with
  | .int i => .int i
  | d => .tuple (((sKey d).getD []).map .int)
theorem intsL_rv {Γ : Gm} {mp : List Addr} {H : Hp} : ∀ {ds : List D} {vs : List V} {is : List Int}, RvL Γ mp H ds vs → intsL ds = some is → vs = (is.map fun i => (Sum.inl i : Key)).map L2.kV
  | [], vs, is, h, e => by simp only [RvL] at h; subst h; cases e; rfl
  | d :: ds, vs, is, h, e => by
    simp only [RvL] at h
    obtain ⟨v, r, rfl, h1, h2⟩ := h
    cases d with
    | int i =>
      simp only [intsL] at e
      cases e2 : intsL ds with
      | none => rw [e2] at e; cases e
      | some js =>
        rw [e2] at e
        cases e
        simp only [Rv] at h1
        rw [h1, intsL_rv h2 e2]
        rfl
    | _ => simp [intsL] at e
theorem rdV_of {Γ : Gm} {mp : List Addr} {H : Hp} {d : D} {x : V} {is : List Int} (h : Rv Γ mp H d x) (e : sKey d = some is) : RdV Γ.K H x (sPy d) := by
  have km : ∀ js : List Int, (js.map fun i => (Sum.inl i : Key)).map kP = js.map PyData.int := fun js => by rw [List.map_map]; rfl
  cases d with
  | int i => simp only [Rv] at h; subst h; exact .inl ⟨.inl i, rfl, rfl⟩
  | tup ys =>
    simp only [Rv, sKey] at h e
    obtain ⟨a, vs, rfl, q, r⟩ := h
    refine .inr ⟨a, is.map fun i => (Sum.inl i : Key), rfl, ?_, ?_⟩
    · rw [← intsL_rv r e]; exact q.sq
    · simp only [sPy, sKey, e, Option.getD_some, km]
  | kt ys =>
    simp only [Rv, sKey] at h e
    obtain ⟨a, vs, rfl, q, r⟩ := h
    refine .inr ⟨a, is.map fun i => (Sum.inl i : Key), rfl, ?_, ?_⟩
    · rw [← intsL_rv r e]; exact q.sq
    · simp only [sPy, sKey, e, Option.getD_some, km]
  | _ => simp [sKey] at e
theorem rvl_of_get {Γ : Gm} {mp : List Addr} {H : Hp} : ∀ {ds : List D} {vs : List V}, ds.length = vs.length → (∀ (i : Nat) (d : D) (v : V), ds[i]? = some d → vs[i]? = some v → Rv Γ mp H d v) → RvL Γ mp H ds vs
  | [], [], _, _ => RvL.nil
  | [], _ :: _, h, _ => by simp at h
  | _ :: _, [], h, _ => by simp at h
  | d :: ds, v :: vs, h, q => RvL.cons (q 0 d v rfl rfl) (rvl_of_get (by simpa using h) fun i d' v' h1 h2 => q (i + 1) d' v' (by simpa using h1) (by simpa using h2))

theorem not_lt_ints (xs ys : List Int) : (!decide (ys < xs)) = decide (xs ≤ ys) := by
  by_cases h : ys < xs
  · have h' : ¬ xs ≤ ys := fun r => List.not_lt.mpr r h
    simp [h, h']
  · have h' : xs ≤ ys := List.not_lt.mp h
    simp [h, h']
theorem sLe_data {a b : D} {is js : List Int} (ea : sKey a = some is) (eb : sKey b = some js) (h : isIntD a = isIntD b) : sLe a b = !PySem.W.dataLt (sPy b) (sPy a) := by
  have tt : ∀ {c d : D} {is js : List Int}, sKey c = some is → sKey d = some js → isIntD c = false → isIntD d = false → sLe c d = !PySem.W.dataLt (sPy d) (sPy c) := by
    intro c d is js ec ed hc hd
    have pc : sPy c = .tuple (is.map .int) := by cases c <;> simp_all [sPy, sKey, isIntD]
    have pd : sPy d = .tuple (js.map .int) := by cases d <;> simp_all [sPy, sKey, isIntD]
    rw [pc, pd, PySem.W.dataLt_tuple]
    show _ = !PySem.W.rowLt (js.map .int) (is.map .int)
    rw [PySem.W.dataLt_ints, not_lt_ints]
    simp only [sLe, ec, ed, Option.getD_some]
  cases ha : isIntD a with
  | false => exact tt ea eb ha (h ▸ ha)
  | true =>
    have hb : isIntD b = true := h ▸ ha
    cases a with
    | int i =>
      cases b with
      | int j =>
        simp only [sLe, sKey, sPy, Option.getD_some, PySem.W.dataLt_int]
        by_cases h : j < i
        · have h' : ¬ [i] ≤ [j] := fun r => List.not_lt.mpr r (by simp [List.cons_lt_cons_iff, h])
          simp [h, h']
        · have h' : [i] ≤ [j] := List.not_lt.mp (by simp [List.cons_lt_cons_iff, h])
          simp [h, h']
      | _ => simp [isIntD] at hb
    | _ => simp [isIntD] at ha
theorem rvl_pairs {Γ : Gm} {mp : List Addr} {H : Hp} : ∀ {zs : List (V × D)}, (∀ z ∈ zs, Rv Γ mp H z.2 z.1) → RvL Γ mp H (zs.map (·.2)) (zs.map (·.1))
  | [], _ => RvL.nil
  | z :: zs, h => RvL.cons (h z (List.mem_cons_self ..)) (rvl_pairs fun y hy => h y (List.mem_cons_of_mem _ hy))
theorem rvl_zip {Γ : Gm} {mp : List Addr} {H : Hp} : ∀ {ds : List D} {vs : List V}, RvL Γ mp H ds vs → ∃ zs : List (V × D), zs.map (·.1) = vs ∧ zs.map (·.2) = ds ∧ ∀ z ∈ zs, Rv Γ mp H z.2 z.1
  | [], vs, h => by simp only [RvL] at h; subst h; exact ⟨[], rfl, rfl, by simp⟩
  | d :: ds, vs, h => by
    simp only [RvL] at h
    obtain ⟨v, r, rfl, h1, h2⟩ := h
    obtain ⟨zs, e1, e2, h3⟩ := rvl_zip h2
    exact ⟨(v, d) :: zs, by simp [e1], by simp [e2], fun z hz => by
      rcases List.mem_cons.mp hz with e | hz
      · rw [e]; exact h1
      · exact h3 z hz⟩
theorem src_of {Γ : Gm} {mp : List Addr} {H : Hp} {st : Mem} {d : D} {x : V} {xs : List D} (R : RelM Γ mp H st) (h : Rv Γ mp H d x) (e : srcD d st = some xs) : ∃ S, SrcV Γ.K H x S ∧ ∀ es, S es → RvL Γ mp H xs es := by
  have seq : seqD d st = some xs → ∃ S, SrcV Γ.K H x S ∧ ∀ es, S es → RvL Γ mp H xs es := fun e => by
    obtain ⟨a, vs, rfl, q | q, r⟩ := seqD_of R h e
    · exact ⟨_, .inl ⟨false, a, vs, rfl, by simpa only [SqB, Bool.false_eq_true, if_false] using q, rfl⟩, fun es he => by rw [he]; exact r⟩
    · exact ⟨_, .inl ⟨true, a, vs, rfl, by simpa only [SqB, if_true] using q, rfl⟩, fun es he => by rw [he]; exact r⟩
  cases d with
  | loc n =>
    unfold srcD at e
    dsimp only at e
    split at e
    · rename_i ys hs
      cases e
      exact seq (by simp [seqD, hs])
    · rename_i kvs hs
      cases e
      simp only [Rv] at h
      obtain ⟨a, rfl, hm⟩ := h
      obtain ⟨vs, h1, h2, _⟩ := R.cell n _ a hs hm
      refine ⟨_, .inr (.inr ⟨a, vs, rfl, .inl h1, rfl⟩), fun es he => ?_⟩
      rw [he]
      have e1 : (kvs.map fun p => kDd p.1) = (kvs.map (·.1)).map kDd := by rw [List.map_map]; rfl
      have e2 : (vs.map fun p => L2.kV p.1) = (vs.map (·.1)).map L2.kV := by rw [List.map_map]; rfl
      rw [e1, e2, h2]
      exact kDd_rvl _
    · rename_i kvs hs
      cases e
      simp only [Rv] at h
      obtain ⟨a, rfl, hm⟩ := h
      obtain ⟨vs, h1, h2, _⟩ := R.cell n _ a hs hm
      have hl : vs.length = kvs.length := by have := congrArg List.length h2; simpa using this
      refine ⟨_, .inr (.inl ⟨a, vs, rfl, .inl h1, rfl⟩), fun es he => ?_⟩
      obtain ⟨l, q⟩ := he
      refine rvl_of_get (by rw [List.length_map, l, hl]) fun i d v hd hv => ?_
      rw [List.getElem?_map] at hd
      cases hk : kvs[i]? with
      | none => rw [hk] at hd; cases hd
      | some p =>
        rw [hk] at hd
        have hd' : D.tup (p.1.map kDd) = d := Option.some.inj hd
        have hi : i < vs.length := by rw [hl]; exact (List.getElem?_eq_some_iff.mp hk).1
        obtain ⟨b, e1, e2⟩ := q i vs[i] (List.getElem?_eq_getElem hi)
        have ek : vs[i].1 = p.1 := by
          have := congrArg (fun l => l[i]?) h2
          simp only [List.getElem?_map, hk, List.getElem?_eq_getElem hi, Option.map_some] at this
          exact Option.some.inj this
        rw [hv] at e1
        have ev : v = .ref b := Option.some.inj e1
        subst ev
        rw [← hd']
        simp only [Rv]
        rw [ek] at e2
        exact ⟨b, _, rfl, ⟨e2, tup_free R e2⟩, kDd_rvl _⟩
    · cases e
  | dct ks ys =>
    unfold srcD at e
    dsimp only at e
    split at e
    · rename_i hlen
      cases e
      simp only [Rv] at h
      obtain ⟨a, vs, rfl, h1, h2, h3, h4⟩ := h
      refine ⟨_, .inr (.inr ⟨a, _, rfl, .inl h1, rfl⟩), fun es he => ?_⟩
      rw [he]
      have e2 : ((ks.zip vs).map fun p => L2.kV p.1) = ((ks.zip vs).map (·.1)).map L2.kV := by rw [List.map_map]; rfl
      rw [e2, List.map_fst_zip (by omega)]
      exact kDd_rvl _
    · cases e
  | _ => exact seq (by simpa only [srcD] using e)
theorem srv_sorted {Γ : Gm} : SrvL Γ (f1 sortedD) (rSortA Γ.K) := srvL1 (by
  intro mp H st d x Q W R h P
  unfold sortedD at P
  split at P
  · rename_i xs hs
    split at P
    · rename_i ok
      obtain ⟨S, src, hS⟩ := src_of R h hs
      refine ⟨x, S, rfl, src, fun es he => ?_⟩
      obtain ⟨zs, e1, e2, hz⟩ := rvl_zip (hS es he)
      unfold srtOk at ok
      rw [Bool.and_eq_true, List.all_eq_true] at ok
      have keyd : ∀ z ∈ zs, ∃ is, sKey z.2 = some is := fun z hm => by
        have := ok.1 z.2 (by rw [← e2]; exact List.mem_map_of_mem hm)
        exact Option.isSome_iff_exists.mp this
      let f : V × D → V × PyData := fun z => (z.1, sPy z.2)
      have cmp : (∀ a ∈ zs, ∀ b ∈ zs, sLe a.2 b.2 = PySem.W.dataLe false (fun b : V × PyData => b.2) (f a) (f b)) ∨ zs.length ≤ 1 := by
        rcases Bool.or_eq_true _ _ |>.mp ok.2 with o | o
        · refine .inl fun a ha b hb => ?_
          obtain ⟨is, h1⟩ := keyd a ha
          obtain ⟨js, h2⟩ := keyd b hb
          refine sLe_data h1 h2 ?_
          have ma : a.2 ∈ xs := by rw [← e2]; exact List.mem_map_of_mem ha
          have mb : b.2 ∈ xs := by rw [← e2]; exact List.mem_map_of_mem hb
          rcases Bool.or_eq_true _ _ |>.mp o with o | o
          · rw [List.all_eq_true] at o; rw [o _ ma, o _ mb]
          · rw [List.all_eq_true] at o
            have q1 := o _ ma
            have q2 := o _ mb
            simp only [Bool.and_eq_true, Bool.not_eq_true'] at q1 q2
            rw [q1.1, q2.1]
        · rw [decide_eq_true_eq, ← e2, List.length_map] at o
          exact .inr o
      have srt : ((zs.mergeSort fun a b => sLe a.2 b.2).map f) = (zs.map f).mergeSort (PySem.W.dataLe false (·.2)) := by
        rcases cmp with c | c
        · exact PySem.W.sort_maps f c
        · match zs, c with
          | [], _ => simp
          | [z], _ => simp
          | z :: z' :: r, h => simp at h
      refine ⟨zs.map f, by rw [List.map_map]; exact e1, fun b hb => ?_, ?_, fun p hp => ?_⟩
      · obtain ⟨z, hm, rfl⟩ := List.mem_map.mp hb
        obtain ⟨is, h1⟩ := keyd z hm
        exact rdV_of (hz z hm) h1
      · rcases Bool.or_eq_true _ _ |>.mp ok.2 with o | o
        · refine .inl ?_
          have mem : ∀ p ∈ (zs.map f).map (·.2), ∃ d ∈ xs, p = sPy d ∧ ∃ is, sKey d = some is := fun p hp => by
            rw [List.map_map] at hp
            obtain ⟨z, hm, rfl⟩ := List.mem_map.mp hp
            exact ⟨z.2, by rw [← e2]; exact List.mem_map_of_mem hm, rfl, keyd z hm⟩
          rcases Bool.or_eq_true _ _ |>.mp o with o | o
          · rw [List.all_eq_true] at o
            have hInts : ∀ p ∈ (zs.map f).map (·.2), ∃ i, p = PyData.int i := fun p hp => by
              obtain ⟨d, hd, rfl, _⟩ := mem p hp
              have := o d hd
              cases d with
              | int i => exact ⟨i, rfl⟩
              | _ => simp [isIntD] at this
            exact ⟨fun p hp p' hp' => by
                obtain ⟨i, rfl⟩ := hInts p hp
                obtain ⟨j, rfl⟩ := hInts p' hp'
                simp [PySem.W.alike], .inr fun p hp => by
                obtain ⟨i, rfl⟩ := hInts p hp
                exact ⟨by simp, fun _ => by simp⟩⟩
          · rw [List.all_eq_true] at o
            have tups : ∀ p ∈ (zs.map f).map (·.2), ∃ is : List Int, p = PyData.tuple (is.map .int) ∧ is ≠ [] := fun p hp => by
              obtain ⟨d, hd, rfl, is, hk⟩ := mem p hp
              have := o d hd
              simp only [Bool.and_eq_true, Bool.not_eq_true', hk, Option.getD_some, decide_eq_true_eq] at this
              refine ⟨is, ?_, this.2⟩
              cases d <;> simp_all [sPy, sKey, isIntD]
            exact ⟨fun p hp p' hp' => by
                obtain ⟨i, rfl, _⟩ := tups p hp
                obtain ⟨j, rfl, _⟩ := tups p' hp'
                simp only [PySem.W.alike]
                exact PySem.W.alike_ints _ _, .inl fun p hp => by
                obtain ⟨is, rfl, hne⟩ := tups p hp
                cases is with
                | nil => exact absurd rfl hne
                | cons i r => exact ⟨_, _, rfl⟩⟩
        · rw [decide_eq_true_eq, ← e2, List.length_map] at o
          exact .inr (by rw [← e1, List.length_map]; exact o)
      · rw [← srt, List.map_map]
        have es2 : (zs.mergeSort fun a b => sLe a.2 b.2).map (·.2) = sortL xs := by
          rw [← e2]
          exact PySem.W.sort_maps (r := fun a b : V × D => sLe a.2 b.2) (s := sLe) (fun z : V × D => z.2) fun a _ b _ => rfl
        refine post_lst (ds := sortL xs) P R ?_ p hp
        rw [← es2]
        exact rvl_pairs fun z hm => hz z ((List.mergeSort_perm zs _).mem_iff.mp hm)
    · exact P.elim
  · exact P.elim)
theorem call_sorted' {X : Cx} {k : Nat} (c : XC k X) : CallR X (.builtin "sorted") (rSortA X.K) := cr_sortedA c.calm (by have := c.xr.room.units; omega)
theorem x_sorted {X : Cx} {k : Nat} {e : Expr} {ms : List ME} {p pos : Pos} (c : XC k X) (ha : SA X [e] ms) (hg : Gl X "sorted") (hm : X.mg "sorted" = none)
    (he : starEach [e] X.env = (false, eval e X.env) :: starEach [] X.env := by rfl) : SE X (.Call (.Name "sorted" p) [e] [] pos) (mF (f1 sortedD) ms) :=
  se_callB (call_sorted' c) srv_sorted boot_sorted hg hm ha (he := he)
end VI
set_option maxHeartbeats 4000000
/-! VI 18: while; list(range(..)); min, max of two; pop(i); lines never reached. -/
namespace VI
open PySem PySem.Spec PyProof.Rows L2

/-! ### while, with a number of laps that is enough -/
def whL : Nat → MB → MS → Env → Mem → RS
  | 0, _, _, _, _ => .bad
  | n + 1, t, b, ρ, st => (t ρ st).toS ρ fun v st1 => if v = true then (match b ρ st1 with
    | .nx ρ' st' => whL n t b ρ' st'
    | .ct ρ' st' => whL n t b ρ' st'
    | .bk ρ' st' => .nx ρ' st'
    | r => r) else .nx ρ st1
def sWhile (n : Nat) (t : MB) (b : MS) : MS := fun ρ st => whL n t b ρ st
section
variable {X : Cx} {e : Expr} {body : List Stmt} {t : MB} {b : MS} {pos : Pos} {k : Nat}
theorem s_while (n : Nat) (c : XC k X) (ht : ST X e t) (hb : SSs X body b) : SS X (.While e body [] pos) (sWhile n t b) := ⟨fun W tk => PS.imp (ps_while c.po (ht.run W tk) (hb.run W tk)) fun E σ H ⟨mp, st, ρ, R, re, P⟩ => by
  refine ⟨fun m σ H => ∃ mp st ρ, RelM (gm X) mp H st ∧ RelE (gm X) mp H ρ σ ∧ PostS (gm X) mp H (whL m t b ρ st) E W, ⟨n, mp, st, ρ, R, re, P⟩, ?_⟩
  rintro m σ H ⟨mp, st, ρ, R, re, P⟩
  cases m with
  | zero => exact P.elim
  | succ m =>
    obtain ⟨mp1, st1, ρ1, R1, re1, P1⟩ := tG_toS (Rel := RB) (x := t) (k := fun v st1 => if v = true then (match b ρ st1 with
      | .nx ρ' st' => whL m t b ρ' st'
      | .ct ρ' st' => whL m t b ρ' st'
      | .bk ρ' st' => .nx ρ' st'
      | r => r) else .nx ρ st1) R re P
    refine ⟨mp1, st1, ρ1, R1, re1, P1.mono fun v H1 ⟨mp2, st2, a, _, x2, R2, re2, rb, P2⟩ => ?_⟩
    cases rb
    cases v with
    | false => exact post_nx P2 R2 re2
    | true =>
      rw [if_pos rfl] at P2 ⊢
      refine ⟨fun σ' H' => ∃ mp st ρ, RelM (gm X) mp H' st ∧ RelE (gm X) mp H' ρ σ' ∧ PostS (gm X) mp H' (whL m t b ρ st) E W, fun σ' H' q => ⟨m, Nat.lt_succ_self m, q⟩, mp2, st2, ρ, R2, re2, ?_⟩
      cases eb : b ρ st2 with
      | nx ρ5 st5 => simp only [eb] at P2; exact fun m6 H6 σ6 x6 R6 re6 => ⟨m6, st5, ρ5, R6, re6, P2.ext x6⟩
      | ct ρ5 st5 => simp only [eb] at P2; exact fun m6 H6 σ6 x6 R6 re6 => ⟨m6, st5, ρ5, R6, re6, P2.ext x6⟩
      | bk ρ5 st5 => simp only [eb] at P2; exact P2
      | rt d5 st5 => simp only [eb] at P2; exact P2
      | exc e5 ρ5 st5 => simp only [eb] at P2; exact P2
      | bad => simp only [eb] at P2; exact P2⟩
/-! ### a line that is never reached -/
theorem ss_bad {ss : List Stmt} {m : MS} (h : SSs X ss m) : SSs X ss (fun _ _ => .bad) := ⟨fun W tk => PSs.imp (h.run W tk) fun E σ H ⟨mp, st, ρ, R, re, P⟩ => P.elim⟩

/-! ### list(range(..)), tuple(range(..)) -/
def rgD (fin : List D → Mem → Res D) (i j : Int) (st : Mem) : Res D := if big62 i = true ∧ big62 j = true ∧ (j - i).toNat ≤ LINE then fin (rangeL i (j - i).toNat) st else .bad
def mLRg1 (mk : List D → Mem → Res D) (m : ME) : ME := fun ρ st => (m ρ st).bind fun d st1 => match d with
  | .int n => rgD mk 0 n st1
  | _ => .bad
def mLRg2 (mk : List D → Mem → Res D) (m n : ME) : ME := fun ρ st => (m ρ st).bind fun d st1 => (n ρ st1).bind fun e st2 => match d, e with
  | .int a, .int b => rgD mk a b st2
  | _, _ => .bad
theorem rg_rv {Γ : Gm} {mp : List Addr} {H : Hp} (a b : Int) : RvL Γ mp H (rangeL a (b - a).toNat) (rgV a b) := by
  refine rvl_of_get (by simp [rangeL, rgV]) fun i d v h1 h2 => ?_
  simp only [rangeL, rgV, List.getElem?_map, Option.map_eq_some_iff] at h1 h2
  obtain ⟨j, h1, rfl⟩ := h1
  obtain ⟨j', h2, rfl⟩ := h2
  rw [h1] at h2; cases h2
  simp [Rv]
theorem rgok_of {i j : Int} (h : big62 i = true ∧ big62 j = true ∧ (j - i).toNat ≤ LINE) : RgOk i j :=
  ⟨(big62_ok h.1).1, (big62_ok h.1).2, (big62_ok h.2.1).1, (big62_ok h.2.1).2, h.2.2⟩
theorem x_listRg1 {a : Expr} {m : ME} {mk : List D → Mem → Res D} {p p2 q : Pos} (hk : MkOk mk) (c : XC k X) (ha : SE X a m) (fl : X.mg "list" = none) (fr : X.mg "range" = none) (hg : Gl X "list" := by rfl) (hg2 : Gl X "range" := by rfl)
    (na : starEach [a] X.env = (false, eval a X.env) :: starEach [] X.env := by rfl)
    (nb : starEach [.Call (.Name "range" p2) [a] [] q] X.env = (false, eval (.Call (.Name "range" p2) [a] [] q) X.env) :: starEach [] X.env := by rfl) :
    SE X (.Call (.Name "list" p) [.Call (.Name "range" p2) [a] [] q] [] pos) (mLRg1 mk m) := ⟨fun W tk => PE.imp (pe_listRg c.calm hg fl (prg_1 hg2 fr (ha.run W tk) na) nb) fun σ H Q h => by
  obtain ⟨mp, st, ρ, R, re, P⟩ := tG_bind (Rel := Rv (gm X)) (m := m) (k := fun _ d st1 => match d with | .int n => rgD mk 0 n st1 | _ => .bad) h
  refine ⟨mp, st, ρ, R, re, P.mono fun x H1 ⟨mp1, st1, ρ1, d, R1, re1, r1, P1⟩ => ?_⟩
  cases d with
  | int n =>
    simp only [Rv] at r1; subst r1
    dsimp only at P1
    unfold rgD at P1
    split at P1
    · rename_i hb
      exact ⟨n, rfl, rgok_of hb, hk (gm X) mp1 H1 st1 Q _ _ _ R1 (rg_rv 0 n) P1⟩
    · exact P1.elim
  | _ => exact P1.elim⟩
theorem x_listRg2 {a b : Expr} {m n : ME} {mk : List D → Mem → Res D} {p p2 q : Pos} (hk : MkOk mk) (c : XC k X) (ha : SE X a m) (hb : SE X b n) (fl : X.mg "list" = none) (fr : X.mg "range" = none) (hg : Gl X "list" := by rfl) (hg2 : Gl X "range" := by rfl)
    (na : starEach [a, b] X.env = (false, eval a X.env) :: starEach [b] X.env := by rfl) (na2 : starEach [b] X.env = (false, eval b X.env) :: starEach [] X.env := by rfl) (hp : (backTo q (starEach [b] X.env)).any (·.1) = false := by rfl)
    (nb : starEach [.Call (.Name "range" p2) [a, b] [] q] X.env = (false, eval (.Call (.Name "range" p2) [a, b] [] q) X.env) :: starEach [] X.env := by rfl) :
    SE X (.Call (.Name "list" p) [.Call (.Name "range" p2) [a, b] [] q] [] pos) (mLRg2 mk m n) := ⟨fun W tk => PE.imp (pe_listRg c.calm hg fl (prg_2 hg2 fr (ha.run W tk) (hb.run W tk) na na2 hp) nb) fun σ H Q h => by
  obtain ⟨mp, st, ρ, R, re, P⟩ := tG_bind (Rel := Rv (gm X)) (m := m) (k := fun ρ d st1 => (n ρ st1).bind fun e st2 => match d, e with | .int a, .int b => rgD mk a b st2 | _, _ => .bad) h
  refine ⟨mp, st, ρ, R, re, P.mono fun x H1 ⟨mp1, st1, ρ1, d, R1, re1, r1, P1⟩ => ?_⟩
  obtain ⟨mp2, st2, ρ2, R2, re2, P2⟩ := tG_bindK (Rel := Rv (gm X)) (m := n) R1 re1 P1
  refine ⟨mp2, st2, ρ2, R2, re2, P2.mono fun y H2 ⟨mp3, st3, e, _, x3, R3, re3, r3, P3⟩ => ?_⟩
  cases d with
  | int i =>
    cases e with
    | int j =>
      simp only [Rv] at r1 r3; subst r1 r3
      dsimp only at P3
      unfold rgD at P3
      split at P3
      · rename_i hb
        exact ⟨i, j, rfl, rfl, rgok_of hb, hk (gm X) mp3 H2 st3 Q _ _ _ R3 (rg_rv i j) P3⟩
      · exact P3.elim
    | _ => exact P3.elim
  | _ => exact P3.elim⟩
/-! ### min, max of two -/
def min2D : F2 := fun d e st => match d, e with
  | .int i, .int j => .ok (.int (if j < i then j else i)) st
  | _, _ => .bad
def max2D : F2 := fun d e st => match d, e with
  | .int i, .int j => .ok (.int (if j > i then j else i)) st
  | _, _ => .bad
theorem srv_min2 {Γ : Gm} : SrvL Γ (f2 min2D) (fun xs H Q => ∃ i j, xs = [.int i, .int j] ∧ Q (.int (if j < i then j else i)) H) := srvL2 (by
  intro mp H st d e x y Q W R h h' P
  unfold min2D at P
  split at P
  · simp only [Rv] at h h'; subst h h'
    exact ⟨_, _, rfl, post_here P R (by simp [Rv])⟩
  · exact P.elim)
theorem srv_max2 {Γ : Gm} : SrvL Γ (f2 max2D) (fun xs H Q => ∃ i j, xs = [.int i, .int j] ∧ Q (.int (if j > i then j else i)) H) := srvL2 (by
  intro mp H st d e x y Q W R h h' P
  unfold max2D at P
  split at P
  · simp only [Rv] at h h'; subst h h'
    exact ⟨_, _, rfl, post_here P R (by simp [Rv])⟩
  · exact P.elim)
theorem x_min2 {a d : Expr} {ms : List ME} {p : Pos} (c : XC k X) (hm : X.mg "min" = none) (ha : SA X [a, d] ms) (hg : Gl X "min" := by rfl) (he : starEach [a, d] X.env = (false, eval a X.env) :: starEach [d] X.env := by rfl) (hpl : (backTo pos (starEach [d] X.env)).any (·.1) = false := by rfl) :
    SE X (.Call (.Name "min" p) [a, d] [] pos) (mF (f2 min2D) ms) := se_callB (call_min2 c.calm) srv_min2 (by first | exact PyProof.Rows.boot_min | exact PySem.boot_min | rfl) hg hm ha (by decide) (by decide) he hpl
theorem x_max2 {a d : Expr} {ms : List ME} {p : Pos} (c : XC k X) (hm : X.mg "max" = none) (ha : SA X [a, d] ms) (hg : Gl X "max" := by rfl) (he : starEach [a, d] X.env = (false, eval a X.env) :: starEach [d] X.env := by rfl) (hpl : (backTo pos (starEach [d] X.env)).any (·.1) = false := by rfl) :
    SE X (.Call (.Name "max" p) [a, d] [] pos) (mF (f2 max2D) ms) := se_callB (call_max2 c.calm) srv_max2 (by first | exact PyProof.Rows.boot_max | exact PySem.boot_max | rfl) hg hm ha (by decide) (by decide) he hpl
/-! ### xs.pop(i) -/
theorem x_pop {a d : Expr} {ma md : ME} (ho : SE X a ma) (ha : SE X d md) {apos cpos : Pos} (hbase : attributeBase a "pop" X.env (eval a X.env) = eval a X.env := by rfl)
    (hfew : ((backTo cpos (starEach [d] X.env)).all (fun x => !x.1) && (backToKw cpos (keywordEach [] X.env)).all (fun x => x.1.isSome)
      && decide ([d].length + ([] : List Keyword).length + (if ([] : List Keyword).isEmpty then 0 else 1) < 30)) = true := by rfl)
    (hline : (apos.endLine == cpos.line) = true := by rfl) (hs : starEach [d] X.env = (false, eval d X.env) :: starEach [] X.env := by rfl) (hplain : (backTo cpos (starEach [] X.env)).any (·.1) = false := by rfl) :
    SE X (.Call (.Attribute a "pop" apos) [d] [] cpos) (mBM "list" popAtD ma [md]) :=
  se_bm PySem.F.plainAttrs_list PySem.F.slot_list_pop PySem.F.type_list_pop mt_popAt srv_popAt ho (sa_cons ha sa_nil hs) hbase hfew hline hs hplain
end
end VI
set_option maxHeartbeats 4000000
/-! VI 19: comparisons in a row of three. -/
namespace VI
open PySem PySem.Spec PyProof.Rows L2

section
variable {X : Cx} {a b c e : Expr} {ta tb tc td : TE} {pos : Pos}
def tChain3 (r r' r'' : R2) (ta tb tc td : TE) : TE := fun σ H Q => ta σ H fun x H1 => tb σ H1 fun y H2 => r x y H2 fun z H3 => ∃ k, z = .bl k ∧
  (if k = true then tc σ H3 fun w' H4 => r' y w' H4 fun z2 H5 => ∃ k2, z2 = .bl k2 ∧ (if k2 = true then td σ H5 fun v H6 => r'' w' v H6 Q else Q (.bl false) H5) else Q (.bl false) H3)
theorem pe_chain3 {o1 o2 o3 : CmpOp} {r r' r'' : R2} (h1 : OpR X (compareOp o1) r) (h2 : OpR X (compareOp o2) r') (h3 : OpR X (compareOp o3) r'') (ha : PE X a ta) (hb : PE X b tb) (hc : PE X c tc) (he : PE X e td)
    (hm : lastMarks [o1, o2, o3] [b, c, e] = false := by with_unfolding_all rfl) : PE X (.Compare a [o1, o2, o3] [b, c, e] pos) (tChain3 r r' r'' ta tb tc td) := by
  refine ⟨fun pins s σ H Q I h => ?_⟩
  refine Compare_chain (thn (ha.run pins s σ H _ I h) fun v s1 ⟨x, H1, I1, r1, q1⟩ => chain_link (thn (hb.run pins s1 σ H1 _ I1 q1) fun u s2 ⟨y, H2, I2, r2, q2⟩ =>
    thn (h1 pins s2 σ H2 x y v u _ I2 r1 r2 q2) fun d s3 ⟨z, H3, I3, r3, k, e, q3⟩ => ?_)) hm
  subst e
  cases r3
  refine wpAny_truthy_bool ?_
  cases k with
  | false => exact ite_ff ⟨.bl false, H3, I3, rfl, q3⟩
  | true =>
    refine ite_tt (chain_link (thn (hc.run pins s3 σ H3 _ I3 q3) fun w' s4 ⟨z', H4, I4, r4, q4⟩ => thn (h2 pins s4 σ H4 y z' u w' _ I4 r2 r4 q4) fun d' s5 ⟨z2, H5, I5, r5, k2, e2, q5⟩ => ?_))
    subst e2
    cases r5
    refine wpAny_truthy_bool ?_
    cases k2 with
    | false => exact ite_ff ⟨.bl false, H5, I5, rfl, q5⟩
    | true => exact ite_tt (chain_last (thn (he.run pins s5 σ H5 _ I5 q5) fun w2 s6 ⟨z3, H6, I6, r6, q6⟩ => h3 pins s6 σ H6 z' z3 w' w2 Q I6 r4 r6 q6))
theorem pt_chain3 {o1 o2 o3 : CmpOp} {r r' r'' : R2} (h1 : OpR X (compareOp o1) r) (h2 : OpR X (compareOp o2) r') (h3 : OpR X (compareOp o3) r'') (ha : PE X a ta) (hb : PE X b tb) (hc : PE X c tc) (he : PE X e td)
    (hm : lastMarks [o1, o2, o3] [b, c, e] = false := by with_unfolding_all rfl) : PT X (.Compare a [o1, o2, o3] [b, c, e] pos) (tTest (tChain3 r r' r'' ta tb tc td)) := by
  refine ⟨fun pins s σ H Q I h => ?_⟩
  refine isTrue_chain (thn (ha.run pins s σ H _ I h) fun v s1 ⟨x, H1, I1, r1, q1⟩ => test_link (thn (hb.run pins s1 σ H1 _ I1 q1) fun u s2 ⟨y, H2, I2, r2, q2⟩ =>
    thn (h1 pins s2 σ H2 x y v u _ I2 r1 r2 q2) fun d s3 ⟨z, H3, I3, r3, k, e, q3⟩ => ?_)) hm
  subst e
  cases r3
  refine wpAny_truthy_bool ?_
  cases k with
  | false =>
    obtain ⟨k', e', q'⟩ := q3
    cases e'
    exact ite_ff ⟨H3, I3, q'⟩
  | true =>
    refine ite_tt (test_link (thn (hc.run pins s3 σ H3 _ I3 q3) fun w' s4 ⟨z', H4, I4, r4, q4⟩ => thn (h2 pins s4 σ H4 y z' u w' _ I4 r2 r4 q4) fun d' s5 ⟨z2, H5, I5, r5, k2, e2, q5⟩ => ?_))
    subst e2
    cases r5
    refine wpAny_truthy_bool ?_
    cases k2 with
    | false =>
      obtain ⟨k', e', q'⟩ := q5
      cases e'
      exact ite_ff ⟨H5, I5, q'⟩
    | true =>
      refine ite_tt (test_last (thn (he.run pins s5 σ H5 _ I5 q5) fun w2 s6 ⟨z3, H6, I6, r6, q6⟩ => thn (h3 pins s6 σ H6 z' z3 w' w2 _ I6 r4 r6 q6) fun d2 s7 ⟨z4, H7, I7, r7, k3, e3, q7⟩ => ?_))
      subst e3
      cases r7
      exact wpAny_truthy_bool ⟨H7, I7, q7⟩
variable {ma mb mc me : ME}
def chk (z : D) (st : Mem) (k : Mem → Res D) : Res D := match z with
  | .bl true => k st
  | .bl false => .ok (.bl false) st
  | _ => .bad
/-- a < b < c < e -/
def mCh3 (f g h : F2) (ma mb mc me : ME) : ME := fun ρ st => (ma ρ st).bind fun x st1 => (mb ρ st1).bind fun y st2 => (f x y st2).bind fun z st3 => chk z st3 fun st4 => (mc ρ st4).bind fun w st5 => (g y w st5).bind fun z2 st6 => chk z2 st6 fun st7 => (me ρ st7).bind fun v st8 => h w v st8
theorem tChain3_of {r r' r'' : R2} {f g h : F2} {W : WX} {σ : L2.St} {H : Hp} {Q : VK} {Γ : Gm} (hf : Srv2 Γ f r) (hg : Srv2 Γ g r') (hh : Srv2 Γ h r'') (q : tE Γ W (mCh3 f g h ma mb mc me) σ H Q) :
    tChain3 r r' r'' (tE Γ W ma) (tE Γ W mb) (tE Γ W mc) (tE Γ W me) σ H Q := by
  obtain ⟨mp, st, ρ, R, E, P⟩ := tG_bind (Rel := Rv Γ) (m := ma) (k := fun ρ x st1 => (mb ρ st1).bind fun y st2 => (f x y st2).bind fun z st3 => chk z st3 fun st4 => (mc ρ st4).bind fun w st5 => (g y w st5).bind fun z2 st6 => chk z2 st6 fun st7 => (me ρ st7).bind fun v st8 => h w v st8) q
  refine ⟨mp, st, ρ, R, E, P.mono fun x H1 ⟨mp1, st1, ρ1, d, R1, E1, r1, P1⟩ => ?_⟩
  obtain ⟨mp2, st2, ρ2, R2, E2, P2⟩ := tG_bindK (Rel := Rv Γ) (m := mb) R1 E1 P1
  refine ⟨mp2, st2, ρ2, R2, E2, P2.mono fun y H2 ⟨mp3, st3, e, _, x3, R3, E3, r3, P3⟩ => ?_⟩
  refine hf mp3 H2 st3 d e x y _ (fun c d H' => W c d σ H') R3 (Rv.ext x3 _ _ r1) r3 ((PostG.bind (Rel := Rv Γ) P3).mono fun z H4 ⟨mp4, st4, zd, x4, R4, r4, P4⟩ => ?_)
  cases zd with
  | bl k =>
    simp only [Rv] at r4
    subst r4
    refine ⟨k, rfl, ?_⟩
    cases k with
    | true =>
      unfold chk at P4
      obtain ⟨mp5, st5, ρ5, R5, E5, P5⟩ := tG_bindK (Rel := Rv Γ) (m := mc) R4 (E3.ext x4) P4
      refine ⟨mp5, st5, ρ5, R5, E5, P5.mono fun w H6 ⟨mp6, st6, ww, _, x6, R6, E6, r6, P6⟩ => ?_⟩
      refine hg mp6 H6 st6 e ww y w _ (fun c d H' => W c d σ H') R6 (Rv.ext (x4.trans x6) _ _ r3) r6 ((PostG.bind (Rel := Rv Γ) P6).mono fun z2 H7 ⟨mp7, st7, zd2, x7, R7, r7, P7⟩ => ?_)
      cases zd2 with
      | bl k2 =>
        simp only [Rv] at r7
        subst r7
        refine ⟨k2, rfl, ?_⟩
        cases k2 with
        | true =>
          obtain ⟨mp8, st8, ρ8, R8, E8, P8⟩ := tG_bindK (Rel := Rv Γ) (m := me) R7 (E6.ext x7) P7
          exact ⟨mp8, st8, ρ8, R8, E8, P8.mono fun v H9 ⟨mp9, st9, vv, _, x9, R9, E9, r9, P9⟩ => hh mp9 H9 st9 ww vv w v _ _ R9 (Rv.ext (x7.trans x9) _ _ r6) r9 P9⟩
        | false => exact P7 mp7 H7 _ (Ext.refl _ _) R7 (by simp [Rv])
      | _ => exact P7.elim
    | false => exact P4 mp4 H4 _ (Ext.refl _ _) R4 (by simp [Rv])
  | _ => exact P4.elim
theorem x_chain3 {o1 o2 o3 : CmpOp} {r r' r'' : R2} {f g h : F2} (h1 : OpR X (compareOp o1) r) (h2 : OpR X (compareOp o2) r') (h3 : OpR X (compareOp o3) r'') (hf : Srv2 (gm X) f r) (hg : Srv2 (gm X) g r') (hh : Srv2 (gm X) h r'')
    (ha : SE X a ma) (hb : SE X b mb) (hc : SE X c mc) (he : SE X e me) (hm : lastMarks [o1, o2, o3] [b, c, e] = false := by with_unfolding_all rfl) :
    SE X (.Compare a [o1, o2, o3] [b, c, e] pos) (mCh3 f g h ma mb mc me) := ⟨fun W tk => PE.imp (pe_chain3 h1 h2 h3 (ha.run W tk) (hb.run W tk) (hc.run W tk) (he.run W tk) hm) fun σ H Q q => tChain3_of hf hg hh q⟩
theorem t_chain3 {o1 o2 o3 : CmpOp} {r r' r'' : R2} {f g h : F2} (h1 : OpR X (compareOp o1) r) (h2 : OpR X (compareOp o2) r') (h3 : OpR X (compareOp o3) r'') (hf : Srv2 (gm X) f r) (hg : Srv2 (gm X) g r') (hh : Srv2 (gm X) h r'')
    (ha : SE X a ma) (hb : SE X b mb) (hc : SE X c mc) (he : SE X e me) (hm : lastMarks [o1, o2, o3] [b, c, e] = false := by with_unfolding_all rfl) :
    ST X (.Compare a [o1, o2, o3] [b, c, e] pos) (asB (mCh3 f g h ma mb mc me)) := ⟨fun W tk => PT.imp (pt_chain3 h1 h2 h3 (ha.run W tk) (hb.run W tk) (hc.run W tk) (he.run W tk) hm) fun σ H Q q => tChain3_of hf hg hh (tTest_of q)⟩
end
end VI
set_option maxHeartbeats 4000000
/-! VI 20: dict comprehensions, d.update(e), lines whose own cells go. -/
namespace VI
open PySem PySem.Spec PyProof.Rows L2

/-! ### {k: v for .. in .. if ..} -/
def stepK (g : MG) (t : MB) (mk mv : ME) (vs : List Nat) (ρ : Env) : D → Mem → Res (Option (D × D)) := fun d st => match g d (wipeE ρ vs) st with
  | .nx ρ1 st1 => (t ρ1 st1).noX.bind fun b st2 => if b = true then (mk ρ1 st2).noX.bind fun x st3 => (mv ρ1 st3).noX.bind fun y st4 => .ok (some (x, y)) st4 else .ok none st2
  | _ => .bad
def pushK (n : Nat) (o : Option (D × D)) (st : Mem) : Res Unit := match o with
  | none => .ok () st
  | some p => match st[n]? with
    | some (.dK kvs) => match keyD p.1 with
      | some k => if kvs.length < LINE then .ok () (st.set n (.dK (putD kvs k p.2))) else .bad
      | none => .bad
    | _ => .bad
def dcL (n : Nat) : List D → (D → Mem → Res (Option (D × D))) → Mem → Res Unit
  | [], _, st => .ok () st
  | d :: ds, f, st => (f d st).bind fun o st1 => (pushK n o st1).bind fun _ st2 => dcL n ds f st2
def mDC (mi : ML) (g : MG) (t : MB) (mk mv : ME) (vs : List Nat) : ME := fun ρ st => (mi ρ st).bind fun ds st1 => (dcL st1.length ds (stepK g t mk mv vs ρ) (st1 ++ [.dK []])).bind fun _ st2 => .ok (.loc st1.length) st2
theorem tDc_of {Γ : Gm} {W : WX} {σ : L2.St} {H : Hp} {Q : VK} {mi : ML} {g : MG} {t : MB} {mk mv : ME} {vs us : List Nat} (hus : ∀ j, j ∈ us → j ∈ vs) (h : tE Γ W (mDC mi g t mk mv vs) σ H Q) :
    tDc (tG Γ (WalkRel Γ) W mi) (tN Γ us g) (tB' Γ W0 t) (tE Γ W0 mk) (tE Γ W0 mv) vs σ H Q := by
  obtain ⟨mp, st, ρ, R, re, P⟩ := tG_bind (Rel := WalkRel Γ) (m := mi) (k := fun ρ ds st1 => (dcL st1.length ds (stepK g t mk mv vs ρ) (st1 ++ [.dK []])).bind fun _ st2 => .ok (D.loc st1.length) st2) h
  refine ⟨mp, st, ρ, R, re, P.mono fun J H1 ⟨mp1, st1, ρ1, ds, R1, re1, w1, P1⟩ A hA => ?_⟩
  have xA : Ext mp1 H1 (mp1 ++ [A]) (upd H1 A (.dK [])) := ext_cell hA
  have RA : RelM Γ (mp1 ++ [A]) (upd H1 A (.dK [])) (st1 ++ [.dK []]) := R1.push hA ⟨[], upd_same, rfl, RvL.nil⟩
  obtain ⟨G, Y, w, hG, hY⟩ := w1.ext xA
  have nA : (mp1 ++ [A])[st1.length]? = some A := by rw [← R1.len]; simp
  refine walk_it w (fun i H2 => ∃ mp2 st2, Ext (mp1 ++ [A]) (upd H1 A (.dK [])) mp2 H2 ∧ RelM Γ mp2 H2 st2 ∧
      Post Γ mp1 H1 ((dcL st1.length (ds.drop i) (stepK g t mk mv vs ρ1) st2).bind fun _ st3 => Res.ok (D.loc st1.length) st3) Q (fun c d H' => W c d σ H'))
    ?start ?G ?turn ?fin
  case start => exact ⟨_, _, Ext.refl _ _, RA, P1⟩
  case G => exact fun i H2 _ ⟨mp2, _, x2, _⟩ => hG mp2 H2 x2
  case fin =>
    rintro H2 ⟨mp2, st2, x2, R2, P2⟩
    rw [List.drop_length] at P2
    simp only [dcL, Res.ok_bind] at P2
    exact P2 mp2 H2 _ (xA.trans x2) R2 (by simp only [Rv]; exact ⟨A, rfl, x2.pre _ _ nA⟩)
  case turn =>
    rintro i x H2 H3 hlt ⟨mp2, st2, x2, R2, P2⟩ y
    obtain ⟨sm, d, hd, rd⟩ := hY mp2 H2 st2 i x H3 x2 R2 hlt y
    have ed : ds.drop i = d :: ds.drop (i + 1) := by rw [List.drop_eq_getElem_cons hlt]; congr 1; rw [List.getElem?_eq_getElem hlt] at hd; exact Option.some.inj hd
    rw [ed] at P2
    have x3 : Ext mp2 H2 mp2 H3 := ext_same sm
    have xx3 := x2.trans x3
    refine ⟨mp2, st2, wipeE ρ1 vs, d, R2.same sm, wipeE_rel (re1.ext (xA.trans xx3)) vs, rd, ?_⟩
    unfold dcL stepK at P2
    cases eg : g d (wipeE ρ1 vs) st2 with
    | nx ρ4 st4 =>
      simp only [eg] at P2
      intro mp4 H4 σ4 x4 R4 re4 l4 k4
      have xx4 := xx3.trans x4
      refine ⟨wipe_same l4 fun j hj => k4 j fun z => hj (hus j z), mp4, st4, ρ4, R4, re4, ?_⟩
      cases et : t ρ4 st4 with
      | bad => rw [et] at P2; exact P2.elim
      | exc e s => rw [et] at P2; exact P2.elim
      | ok b st5 =>
        simp only [et, Res.noX_ok, Res.ok_bind] at P2
        intro mp5 H5 b' x5 R5 rb
        cases rb
        have xx5 := xx4.trans x5
        cases b with
        | false =>
          simp only [Bool.false_eq_true, if_false, Res.ok_bind, pushK] at P2
          rw [if_neg Bool.false_ne_true]
          exact ⟨mp5, st5, xx5, R5, P2⟩
        | true =>
          simp only [if_true] at P2
          rw [if_pos rfl]
          refine ⟨mp5, st5, ρ4, R5, re4.ext x5, ?_⟩
          cases ee : mk ρ4 st5 with
          | bad => rw [ee] at P2; exact P2.elim
          | exc e s => rw [ee] at P2; exact P2.elim
          | ok z st6 =>
            simp only [ee, Res.noX_ok, Res.ok_bind] at P2
            intro mp6 H6 v x6 R6 rz
            have xx6 := xx5.trans x6
            refine ⟨mp6, st6, ρ4, R6, (re4.ext x5).ext x6, ?_⟩
            cases ev : mv ρ4 st6 with
            | bad => rw [ev] at P2; exact P2.elim
            | exc e s => rw [ev] at P2; exact P2.elim
            | ok q st7 =>
              simp only [ev, Res.noX_ok, Res.ok_bind, pushK] at P2
              intro mp7 H7 u x7 R7 rq
              have xx7 := xx6.trans x7
              split at P2
              · rename_i acc hacc
                obtain ⟨vs', h1, h2, h3⟩ := R7.cell _ _ A hacc (xx7.pre _ _ nA)
                split at P2
                · rename_i k hk
                  split at P2
                  · rename_i hl
                    simp only [Res.ok_bind] at P2
                    have ek := key_of (Rv.ext x7 _ _ rz) hk
                    have hlen := congrArg List.length h2
                    simp only [List.length_map] at hlen
                    obtain ⟨p1, p2⟩ := put_of (k := k) h2 h3 rq
                    refine ⟨vs', k, ek, h1, by rw [hlen, sizeLine_eq]; exact hl, mp7, _, xx7.trans (ext_write (List.mem_of_getElem? (xx7.pre _ _ nA))), R7.write (c := .dK (putD acc k q)) (xx7.pre _ _ nA) h1 (show ∃ vs, _ = some (HO.dK vs) ∧ _ from ⟨_, upd_same, p1, ?_⟩), P2⟩
                    exact RvL.ext (ext_write (List.mem_of_getElem? (xx7.pre _ _ nA))) _ _ p2
                  · exact P2.elim
                · exact P2.elim
              · exact P2.elim
    | _ => simp only [eg] at P2; exact P2.elim
section
variable {X : Cx} {kx vx tg iter : Expr} {ifs : List Expr} {scope : Scope} {own : List (Str × Nat)} {pos : Pos} {mi : ML} {g : MG} {t : MB} {mk mv : ME} {us : List Nat} {k : Nat}
theorem se_dc (c : XC k X) (hi : SI X tg iter mi) (ok : blkC X.N X.env.scope scope own = true) (hus : ∀ j, j ∈ us → j ∈ own.map (·.2))
    (hg : ∀ (s : Shared) (H : Hp) (C : Addr) (cl : List (Str × Addr)) (fp : List Addr), XC k (X.blk s H scope (compEnvC scope cl C X.env) fp) → SG (X.blk s H scope (compEnvC scope cl C X.env) fp) tg us g)
    (ht : ∀ (s : Shared) (H : Hp) (C : Addr) (cl : List (Str × Addr)) (fp : List Addr), XC k (X.blk s H scope (compEnvC scope cl C X.env) fp) → STs (X.blk s H scope (compEnvC scope cl C X.env) fp) ifs t)
    (hk : ∀ (s : Shared) (H : Hp) (C : Addr) (cl : List (Str × Addr)) (fp : List Addr), XC k (X.blk s H scope (compEnvC scope cl C X.env) fp) → SE (X.blk s H scope (compEnvC scope cl C X.env) fp) kx mk)
    (he : ∀ (s : Shared) (H : Hp) (C : Addr) (cl : List (Str × Addr)) (fp : List Addr), XC k (X.blk s H scope (compEnvC scope cl C X.env) fp) → SE (X.blk s H scope (compEnvC scope cl C X.env) fp) vx mv)
    (hs : ∀ x, foldedSetIterable iter X.env x = pure x := by intro _; rfl) : SE X (.DictComp kx vx [⟨tg, iter, ifs, 0⟩] scope pos) (mDC mi g t mk mv (own.map (·.2))) :=
  ⟨fun W tk => PE.imp (pe_dc (own := own) c.calm c.nd (hi.run W tk) (blkOk_by ok) (fun s H C cl fp => (hg s H C cl fp (c.blk _ _ _ _ _)).run) (fun s H C cl fp => (ht s H C cl fp (c.blk _ _ _ _ _)).run W0 takes0) (fun s H C cl fp => (hk s H C cl fp (c.blk _ _ _ _ _)).run W0 takes0) (fun s H C cl fp => (he s H C cl fp (c.blk _ _ _ _ _)).run W0 takes0) hs)
    fun σ H Q q => tDc_of hus q⟩
end

/-! ### x = [.. for .. for ..] -/
section
variable {X : Cx} {elt tg iter tg1 iter1 : Expr} {ifs ifs1 : List Expr} {scope : Scope} {own : List (Str × Nat)} {pos : Pos} {mi mi1 : ML} {g g1 : MG} {t t1 : MB} {m : ME} {us us1 vs1 : List Nat} {k : Nat} {fin : Mem → Mem → Res D}
theorem s_setLc2X (i : Nat) {y : Str} {py spos : Pos} (hf : FinOk fin) (c : XC k X) 
    (hi : SI X tg iter mi) (ok : blkC X.N X.env.scope scope own = true) (hus : ∀ j, j ∈ us → j ∈ own.map (·.2)) (hv : ∀ i ∈ vs1, i ∈ own.map (·.2)) (hus1 : ∀ j, j ∈ us1 → j ∈ vs1)
    (hg : ∀ (s : Shared) (H : Hp) (C : Addr) (cl : List (Str × Addr)) (fp : List Addr), XC k (X.blk s H scope (compEnvC scope cl C X.env) fp) → SG (X.blk s H scope (compEnvC scope cl C X.env) fp) tg us g)
    (ht : ∀ (s : Shared) (H : Hp) (C : Addr) (cl : List (Str × Addr)) (fp : List Addr), XC k (X.blk s H scope (compEnvC scope cl C X.env) fp) → STs (X.blk s H scope (compEnvC scope cl C X.env) fp) ifs t)
    (hi1 : ∀ (s : Shared) (H : Hp) (C : Addr) (cl : List (Str × Addr)) (fp : List Addr), XC k (X.blk s H scope (compEnvC scope cl C X.env) fp) → SI (X.blk s H scope (compEnvC scope cl C X.env) fp) tg1 iter1 mi1)
    (hg1 : ∀ (s : Shared) (H : Hp) (C : Addr) (cl : List (Str × Addr)) (fp : List Addr), XC k (X.blk s H scope (compEnvC scope cl C X.env) fp) → SG (X.blk s H scope (compEnvC scope cl C X.env) fp) tg1 us1 g1)
    (ht1 : ∀ (s : Shared) (H : Hp) (C : Addr) (cl : List (Str × Addr)) (fp : List Addr), XC k (X.blk s H scope (compEnvC scope cl C X.env) fp) → STs (X.blk s H scope (compEnvC scope cl C X.env) fp) ifs1 t1)
    (he : ∀ (s : Shared) (H : Hp) (C : Addr) (cl : List (Str × Addr)) (fp : List Addr), XC k (X.blk s H scope (compEnvC scope cl C X.env) fp) → SE (X.blk s H scope (compEnvC scope cl C X.env) fp) elt m)
    (hy : X.N[i]? = some y := by rfl) (hyl : X.env.scope.names.lookup y = some .local := by rfl) (hsw : swapsWith (.ListComp elt [⟨tg, iter, ifs, 0⟩, ⟨tg1, iter1, ifs1, 0⟩] scope pos) (some (.Name y py)) spos.line X.env = pure true := by rfl)
    (hs : ∀ x, foldedSetIterable iter X.env x = pure x := by intro _; rfl) (hs1 : ∀ env x, foldedSetIterable iter1 env x = pure x := by intro _ _; rfl) :
    SS X (.Assign [.Name y py] (.ListComp elt [⟨tg, iter, ifs, 0⟩, ⟨tg1, iter1, ifs1, 0⟩] scope pos) spos) (sSet i (mLC2 fin mi g t mi1 g1 t1 m (own.map (·.2)) vs1)) :=
  s_setLc2 hf c hy hyl hsw hi ok hus hv hus1 hg ht hi1 hg1 ht1 he hs hs1
end

/-! ### d.update(e) -/
def rUpd : V → List V → Hp → VK → Prop := fun x xs H Q => ∃ (a b : Addr) (kvs more : List (Key × V)), x = .ref a ∧ xs = [.ref b] ∧ a ≠ b ∧ H a = some (.dK kvs) ∧ H b = some (.dK more) ∧ kvs.length + more.length ≤ sizeLine ∧ Q .non (upd H a (.dK (mergeK kvs more)))
theorem mt_upd {X : Cx} : MtR X "dict.update" rUpd := by
  intro pins s σ H x xs v us Q I rx rxs h
  obtain ⟨a, b, kvs, more, rfl, rfl, hab, ha, hb, hz, q⟩ := h
  cases rx
  obtain ⟨u, rfl, ru⟩ := Vals.one rxs
  cases ru
  obtain ⟨za, na, va, ra, da⟩ := dk_of I.hok ha
  obtain ⟨zb, nb, vb, rb, db⟩ := dk_of I.hok hb
  refine call_meetsIn PySem.F.slot_dict_update da.typeIs PySem.F.entry_dict_update (PySem.F.args_dict_update_2 _ _) (meets_dict_update (mixKind X.prog X.w) a b hab nb)
    ⟨va, vb, da, db, by rw [← ra.length, ← rb.length]; exact hz, fun h' da' db' hs => ?_⟩
  have he : ∃ q, h'.get? a = some q := let ⟨q, _, _, hq, _⟩ := da'; ⟨q, hq⟩
  refine ⟨.non, _, d_write (t' := s.toks) I (by rw [ha]; exact True.intro) hs he (dk_new ?_ na (KV.merge rb ra) da'), rfl, q⟩
  exact Nat.le_trans (length_mergeK more kvs) hz
def mergeDs (kvs more : List (Key × D)) : List (Key × D) := more.foldl (fun acc kv => putD acc kv.1 kv.2) kvs
def updateD : FM := fun o ds st => match o, ds with
  | .loc n, [.loc m] => if n = m then .bad else match st[n]?, st[m]? with
    | some (.dK kvs), some (.dK more) => if kvs.length + more.length ≤ LINE then .ok .non (st.set n (.dK (mergeDs kvs more))) else .bad
    | _, _ => .bad
  | _, _ => .bad
theorem srv_upd {Γ : Gm} : SrvM Γ updateD rUpd := by
  intro mp H st o ds x xs Q W R ho rl P
  unfold updateD at P
  split at P
  · rename_i n m
    split at P
    · exact P.elim
    · rename_i hnm
      simp only [Rv] at ho
      obtain ⟨a, rfl, hm⟩ := ho
      obtain ⟨v, rfl, rv⟩ := rl.one
      simp only [Rv] at rv
      obtain ⟨b, rfl, hb⟩ := rv
      have hmem : a ∈ mp := List.mem_of_getElem? hm
      split at P
      · rename_i kvs more hs hs2
        obtain ⟨vs, h1, h2, h3⟩ := R.cell n _ a hs hm
        obtain ⟨us, k1, k2, k3⟩ := R.cell m _ b hs2 hb
        split at P
        · rename_i hl
          have l1 := congrArg List.length h2
          have l2 := congrArg List.length k2
          simp only [List.length_map] at l1 l2
          have hab : a ≠ b := by
            intro z; subst z
            obtain ⟨b1, c1⟩ := List.getElem?_eq_some_iff.mp hm
            obtain ⟨b2, c2⟩ := List.getElem?_eq_some_iff.mp hb
            exact hnm ((List.getElem_inj R.nd).mp (c1.trans c2.symm))
          obtain ⟨m1, m2⟩ := merge_of (acc := kvs) (bcc := vs) k2 k3 h2 h3
          refine ⟨a, b, vs, us, rfl, rfl, hab, h1, k1, by rw [l1, l2, sizeLine_eq]; exact hl, P mp _ .non (ext_write hmem) (R.write hm h1 (show ∃ vs, _ = some (HO.dK vs) ∧ _ from ⟨_, upd_same, m1, RvL.ext (ext_write hmem) _ _ m2⟩)) (by simp [Rv])⟩
        · exact P.elim
      · exact P.elim
  · exact P.elim
theorem x_update {X : Cx} {a d : Expr} {ma md : ME} (ho : SE X a ma) (ha : SE X d md) {apos cpos : Pos} (hbase : attributeBase a "update" X.env (eval a X.env) = eval a X.env := by rfl)
    (hfew : ((backTo cpos (starEach [d] X.env)).all (fun x => !x.1) && (backToKw cpos (keywordEach [] X.env)).all (fun x => x.1.isSome)
      && decide ([d].length + ([] : List Keyword).length + (if ([] : List Keyword).isEmpty then 0 else 1) < 30)) = true := by rfl)
    (hline : (apos.endLine == cpos.line) = true := by rfl) (hs : starEach [d] X.env = (false, eval d X.env) :: starEach [] X.env := by rfl) (hplain : (backTo cpos (starEach [] X.env)).any (·.1) = false := by rfl) :
    SE X (.Call (.Attribute a "update" apos) [d] [] cpos) (mBM "dict" updateD ma [md]) :=
  se_bm PySem.F.plainAttrs_dict PySem.F.slot_dict_update PySem.F.type_dict_update mt_upd srv_upd ho (sa_cons ha sa_nil hs) hbase hfew hline hs hplain

/-! ### a line whose own cells go -/
def cell2 (st0 st : Mem) (n i : Nat) : Bool := match st[i]? with
  | some c => (match st0[i]? with
    | some c0 => decide (c = c0)
    | none => false) || c.below n
  | none => false
def clean2 (st0 st : Mem) : Bool := decide (st0.length ≤ st.length) && (List.range st0.length).all fun i => cell2 st0 st st0.length i
theorem clean2_ok {Γ : Gm} {mp : List Addr} {H : Hp} {st0 st : Mem} (R : RelM Γ mp H st0) (h : clean2 st0 st = true) : (st.take mp.length).all (Cell.below mp.length) = true := by
  unfold clean2 at h
  rw [Bool.and_eq_true, decide_eq_true_eq, List.all_eq_true] at h
  obtain ⟨hl, h⟩ := h
  rw [R.len, List.all_eq_true]
  intro c hc
  obtain ⟨i, hi, e⟩ := List.mem_iff_getElem.mp hc
  have hi0 : i < st0.length := by
    simp only [List.length_take] at hi; omega
  have q := h i (List.mem_range.mpr hi0)
  have e1 : st[i]? = some c := by
    simp only [List.getElem_take] at e
    rw [List.getElem?_eq_getElem (by omega), e]
  unfold cell2 at q
  rw [e1, List.getElem?_eq_getElem hi0] at q
  simp only [Bool.or_eq_true, decide_eq_true_eq] at q
  rcases q with q | q
  · have b := R.below
    rw [List.all_eq_true] at b
    have := b st0[i] (List.getElem_mem hi0)
    rw [q, ← R.len]; exact this
  · exact q
def tidyR (st0 : Mem) (ρ : Env) (st : Mem) : RS := if clean2 st0 st = true then .nx ρ (st.take st0.length) else .bad
/-- an expression for what it does alone -/
def sDropT (m : ME) : MS := fun ρ st => (m ρ st).toS ρ fun _ st1 => tidyR st ρ st1
section
variable {X : Cx} {e : Expr} {me : ME} {pos : Pos}
theorem s_exprT (he : SE X e me) (hs : swapsWith e none pos.line X.env = pure false := by rfl) : SS X (.Expr e pos) (sDropT me) := ⟨fun W tk => PS.imp (ps_expr (he.run W tk) hs) fun E σ H ⟨mp, st, ρ, R, re, P⟩ => by
  refine ⟨mp, st, ρ, R, re, (P.toS (Rel := Rv (gm X)) re).mono fun v H1 ⟨mp2, st2, a, hx, x2, R2, r2, re2, P2⟩ => ?_⟩
  unfold sDropT at P
  rw [hx] at P
  simp only [Res.ok_toS] at P
  unfold tidyR at P
  split at P
  · rename_i hc
    obtain ⟨r, e⟩ := pre_eq x2.pre
    subst e
    have RR : RelM (gm X) mp H1 (st2.take mp.length) := R2.less (clean2_ok R hc)
    have xx : Ext mp H mp H1 := x2.less rfl
    rw [← R.len] at P
    exact P mp H1 σ xx RR (re.ext xx)
  · exact P.elim⟩
end
end VI
set_option maxHeartbeats 4000000
/-! VI 21: l.extend(m); sorted rows of a text and an int; min of a tuple; xs[::-1] of tuples. -/
namespace VI
open PySem PySem.Spec PyProof.Rows L2

/-! ### l.extend(m) -/
def extendD : FM := fun o ds st => match o, ds with
  | .loc n, [.lst zs] => match st[n]? with
    | some (.lst xs) => if xs.length + zs.length ≤ LINE then .ok .non (st.set n (.lst (xs ++ zs))) else .bad
    | _ => .bad
  | _, _ => .bad
theorem srv_extend {Γ : Gm} : SrvM Γ extendD rExtend := by
  intro mp H st o ds x xs Q W R ho rl P
  unfold extendD at P
  split at P
  · rename_i n zs
    simp only [Rv] at ho
    obtain ⟨a, rfl, hm⟩ := ho
    obtain ⟨v, rfl, rv⟩ := rl.one
    simp only [Rv] at rv
    obtain ⟨b, us, rfl, hb, rb⟩ := rv
    have hmem : a ∈ mp := List.mem_of_getElem? hm
    split at P
    · rename_i ys hs
      obtain ⟨vs, h1, h2⟩ := R.cell n _ a hs hm
      split at P
      · rename_i hl
        refine ⟨a, b, vs, us, rfl, rfl, h1, hb.1, by rw [← h2.length, ← rb.length, sizeLine_eq]; exact hl, P mp _ .non (ext_write hmem) (R.write hm h1 (show ∃ vs, _ = some (HO.lst vs) ∧ _ from ⟨_, upd_same, ?_⟩)) (by simp [Rv])⟩
        exact RvL.ext (ext_write hmem) _ _ (h2.append rb)
      · exact P.elim
    · exact P.elim
  · exact P.elim
theorem x_extend {X : Cx} {a d : Expr} {ma md : ME} (ho : SE X a ma) (ha : SE X d md) {apos cpos : Pos} (hbase : attributeBase a "extend" X.env (eval a X.env) = eval a X.env := by rfl)
    (hfew : ((backTo cpos (starEach [d] X.env)).all (fun x => !x.1) && (backToKw cpos (keywordEach [] X.env)).all (fun x => x.1.isSome)
      && decide ([d].length + ([] : List Keyword).length + (if ([] : List Keyword).isEmpty then 0 else 1) < 30)) = true := by rfl)
    (hline : (apos.endLine == cpos.line) = true := by rfl) (hs : starEach [d] X.env = (false, eval d X.env) :: starEach [] X.env := by rfl) (hplain : (backTo cpos (starEach [] X.env)).any (·.1) = false := by rfl) :
    SE X (.Call (.Attribute a "extend" apos) [d] [] cpos) (mBM "list" extendD ma [md]) :=
  se_bm PySem.F.plainAttrs_list PySem.F.slot_list_extend PySem.F.type_list_extend mt_extend srv_extend ho (sa_cons ha sa_nil hs) hbase hfew hline hs hplain

/-! ### sorted: rows of a text and an int -/
def isSI : D → Bool
  | .tup [.str _, .int _] => true
  | _ => false
def siPy : D → PyData
  | .tup [.str s, .int i] => .tuple [.str s, .int i]
  | _ => .none
theorem si_cases {d : D} (h : isSI d = true) : ∃ s i, d = .tup [.str s, .int i] := by
  unfold isSI at h
  split at h
  · exact ⟨_, _, rfl⟩
  · cases h
def sortedSI : F1 := fun d st => match srcD d st with
  | some xs => if xs.all isSI = true then .ok (.lst (xs.mergeSort (PySem.W.dataLe false siPy))) st else .bad
  | none => .bad
theorem srv_sortedSI {Γ : Gm} : SrvL Γ (f1 sortedSI) (rSortA Γ.K) := srvL1 (by
  intro mp H st d x Q W R h P
  unfold sortedSI at P
  split at P
  · rename_i xs hs
    split at P
    · rename_i ok
      rw [List.all_eq_true] at ok
      obtain ⟨S, src, hS⟩ := src_of R h hs
      refine ⟨x, S, rfl, src, fun es he => ?_⟩
      obtain ⟨zs, e1, e2, hz⟩ := rvl_zip (hS es he)
      have mem : ∀ z ∈ zs, ∃ s i, z.2 = .tup [.str s, .int i] := fun z hm => si_cases (ok z.2 (by rw [← e2]; exact List.mem_map_of_mem hm))
      have srt : ((zs.mergeSort fun a b => PySem.W.dataLe false siPy a.2 b.2).map fun z => (z.1, siPy z.2)) = (zs.map fun z => (z.1, siPy z.2)).mergeSort (PySem.W.dataLe false (·.2)) :=
        PySem.W.sort_maps (fun z : V × D => (z.1, siPy z.2)) fun a _ b _ => rfl
      refine ⟨zs.map fun z => (z.1, siPy z.2), by rw [List.map_map]; exact e1, fun b hb => ?_, .inl ⟨fun p hp p' hp' => ?_, .inl fun p hp => ?_⟩, fun p hp => ?_⟩
      · obtain ⟨z, hm, rfl⟩ := List.mem_map.mp hb
        obtain ⟨s, i, e⟩ := mem z hm
        have r := hz z hm
        rw [e] at r
        simp only [Rv, RvL] at r
        obtain ⟨a, vs, ea, q, v1, r1, ev, hv1, v2, r2, ev2, hv2, e3⟩ := r
        refine .inr ⟨a, [.inr s, .inl i], ea, ?_, by show siPy z.2 = _; rw [e]; rfl⟩
        subst e3 hv1 hv2 ev2 ev
        exact q.sq
      · rw [List.map_map] at hp hp'
        obtain ⟨z, hm, rfl⟩ := List.mem_map.mp hp
        obtain ⟨z', hm', rfl⟩ := List.mem_map.mp hp'
        obtain ⟨s, i, e⟩ := mem z hm
        obtain ⟨s', i', e'⟩ := mem z' hm'
        simp [siPy, e, e', PySem.W.alike, PySem.W.alikeAll]
      · rw [List.map_map] at hp
        obtain ⟨z, hm, rfl⟩ := List.mem_map.mp hp
        obtain ⟨s, i, e⟩ := mem z hm
        exact ⟨.str s, [.int i], by simp [siPy, e]⟩
      · rw [← srt, List.map_map]
        have es2 : (zs.mergeSort fun a b => PySem.W.dataLe false siPy a.2 b.2).map (·.2) = xs.mergeSort (PySem.W.dataLe false siPy) := by
          rw [← e2]
          exact PySem.W.sort_maps (r := fun a b : V × D => PySem.W.dataLe false siPy a.2 b.2) (s := PySem.W.dataLe false siPy) (fun z : V × D => z.2) fun a _ b _ => rfl
        refine post_lst (ds := xs.mergeSort (PySem.W.dataLe false siPy)) P R ?_ p hp
        rw [← es2]
        exact rvl_pairs fun z hm => hz z ((List.mergeSort_perm zs _).mem_iff.mp hm)
    · exact P.elim
  · exact P.elim)
theorem x_sortedSI {X : Cx} {k : Nat} {e : Expr} {ms : List ME} {p pos : Pos} (c : XC k X) (ha : SA X [e] ms) (hg : Gl X "sorted") (hm : X.mg "sorted" = none)
    (he : starEach [e] X.env = (false, eval e X.env) :: starEach [] X.env := by rfl) : SE X (.Call (.Name "sorted" p) [e] [] pos) (mF (f1 sortedSI) ms) :=
  se_callB (call_sorted' c) srv_sortedSI boot_sorted hg hm ha (he := he)

/-! ### min of a tuple or a list of ints -/
def rMinT (K : PySem.W.Frag) : List V → Hp → VK → Prop := fun xs H Q => ∃ (a : Addr) (n : Int) (ns : List Int), xs = [.ref a] ∧ SqT K H a ((n :: ns).map V.int) ∧ Q (.int (ns.foldl min n)) H
theorem reads_ints {h : Heap} : ∀ {ns : List Int} {us : List Value}, Vals (ns.map V.int) us → ReadsAll h us (ns.map PyData.int) []
  | [], us, r => by rw [List.map_nil] at r; cases r; exact .nil
  | n :: ns, us, r => by
    rw [List.map_cons] at r
    cases r with
    | cons r1 r2 =>
      obtain ⟨t, rfl⟩ := r1
      exact ReadsAll.cons (as := []) (bs := []) (.int _ _) (reads_ints r2)
theorem call_minT {X : Cx} {k : Nat} (c : XC k X) : CallR X (.builtin "min") (rMinT X.K) := by
  intro pins s σ H xs us Q I r h
  obtain ⟨a, n, ns, rfl, hs, q⟩ := h
  obtain ⟨its, rv, p, _⟩ := I.tuple hs
  rw [Vals.ref1 r]
  have rd : ReadsAll s.heap its.toArray.toList (.int n :: ns.map .int) [] := by
    have := reads_ints (h := s.heap) rv
    simpa using this
  refine PySem.W.min_tuple_data (I.ok.hd c.calm) p rd ?_ ?_ fun i v h' tk bs hv hr hk => ?_
  · have : PySem.W.AlikeAll ((n :: ns).map PyData.int) := by
      refine ⟨fun d hd d' hd' => ?_, fun d hd => ?_⟩
      · obtain ⟨i, _, rfl⟩ := List.mem_map.mp hd
        obtain ⟨j, _, rfl⟩ := List.mem_map.mp hd'
        simp [PySem.W.alike]
      · obtain ⟨i, _, rfl⟩ := List.mem_map.mp hd
        exact fun z => nomatch z
    exact this
  · have e : PyData.depthAll (.int n :: ns.map .int) = 0 := PySem.W.depth_ints (n :: ns)
    rw [e]
    have := c.xr.room.units
    omega
  · rw [PySem.W.minD_ints] at hr
    cases hr
    exact ⟨.int _, H, I.kept hk, ⟨_, rfl⟩, q⟩
def minTD : F1 := fun d st => match d with
  | .tup xs => match intsD xs with
    | some (n :: ns) => .ok (.int (ns.foldl min n)) st
    | _ => .bad
  | _ => .bad
theorem srv_minT {Γ : Gm} : SrvL Γ (f1 minTD) (rMinT Γ.K) := srvL1 (by
  intro mp H st d x Q W R h P
  unfold minTD at P
  split at P
  · rename_i xs
    simp only [Rv] at h
    obtain ⟨a, vs, rfl, q, r⟩ := h
    split at P
    · rename_i n ns hn
      have := ints_of r hn
      subst this
      exact ⟨a, n, ns, rfl, q.sq, post_here P R (by simp [Rv])⟩
    · exact P.elim
  · exact P.elim)
theorem x_minT {X : Cx} {k : Nat} {e : Expr} {ms : List ME} {p pos : Pos} (c : XC k X) (hm : X.mg "min" = none) (ha : SA X [e] ms) (hg : Gl X "min" := by rfl)
    (he : starEach [e] X.env = (false, eval e X.env) :: starEach [] X.env := by rfl) : SE X (.Call (.Name "min" p) [e] [] pos) (mF (f1 minTD) ms) :=
  se_callB (call_minT c) srv_minT (by first | exact PyProof.Rows.boot_min | exact PySem.boot_min | rfl) hg hm ha (he := he)

/-! ### xs[::-1] of a tuple -/
theorem adj_rev (n : Nat) : Builtin.Slice.sliceAdjust none none (-1) (n : Int) = ((n : Int) - 1, -1) := by
  unfold Builtin.Slice.sliceAdjust
  simp
theorem pl_rev (n : Nat) : Builtin.Slice.slicePlaces ((n : Int) - 1) (-1) (-1) = n := by
  unfold Builtin.Slice.slicePlaces
  have h0 : ¬ (-1 : Int) > 0 := by omega
  simp only [h0, if_false, Int.neg_neg, Int.ediv_one]
  by_cases h : (n : Int) - 1 > -1
  · rw [if_pos h]; omega
  · rw [if_neg h]; omega
theorem filterMap_mem' {α β : Type} {f g : α → Option β} : ∀ {l : List α}, (∀ a ∈ l, f a = g a) → l.filterMap f = l.filterMap g
  | [], _ => rfl
  | a :: l, h => by
    rw [List.filterMap_cons, List.filterMap_cons, h a List.mem_cons_self, filterMap_mem' fun b hb => h b (List.mem_cons_of_mem _ hb)]
theorem fm_rev {α : Type} : ∀ (l : List α), ((List.range l.length).filterMap fun (k : Nat) => l[l.length - 1 - k]?) = l.reverse := by
  intro l
  have e : (List.range l.length).filterMap (fun (k : Nat) => l[l.length - 1 - k]?) = (List.range l.length).filterMap (fun (k : Nat) => l.reverse[k]?) := by
    refine filterMap_mem' fun k hk => ?_
    rw [List.mem_range] at hk
    rw [List.getElem?_reverse hk]
  rw [e]
  have key : ∀ (m : List α), (List.range m.length).filterMap (fun (k : Nat) => m[k]?) = m := by
    intro m
    induction m with
    | nil => rfl
    | cons a m ih =>
      rw [List.length_cons, List.range_succ_eq_map, List.filterMap_cons, List.filterMap_map]
      simp only [List.getElem?_cons_zero]
      congr 1
  have := key l.reverse
  rw [List.length_reverse] at this
  exact this
theorem fm_revA (xs : Array Value) : ((List.range xs.size).filterMap fun (k : Nat) => xs[(((xs.size : Nat) : Int) - 1 + (k : Int) * -1).toNat]?).toArray = xs.toList.reverse.toArray := by
  have e : ((List.range xs.size).filterMap fun (k : Nat) => xs[(((xs.size : Nat) : Int) - 1 + (k : Int) * -1).toNat]?) = (List.range xs.toList.length).filterMap fun (k : Nat) => xs.toList[xs.toList.length - 1 - k]? := by
    rw [Array.length_toList]
    refine filterMap_mem' fun k hk => ?_
    rw [List.mem_range] at hk
    rw [Array.getElem?_toList]
    congr 1
    omega
  rw [e, fm_rev]
section
variable {prog : Program} {w : World} {A : Around} {E : Value → Shared → Prop} {s : Shared}
theorem slice_rev {sl : Addr} {vs : Value} {n : Nat} {Q : Int × Int × Nat → Shared → Prop} (hs : s.heap.IsSliceOf sl .none .none vs) (ps : IsPart vs (some (-1))) (h : Q ((n : Int) - 1, -1, n) s) :
    wpAny (model prog w) A (Builtin.Slice.sliceApplied (.ref sl) (pure (n : Int))) Q E s := by
  obtain ⟨os, ho, hc, hd⟩ := id hs
  unfold Builtin.Slice.sliceApplied Builtin.Slice.sliceFields
  have f2 := fun {Q : Value → Shared → Prop} (q : Q vs s) => wpAny_field (M := model prog w) (A := A) (E := E) ho hd (i := 2) (x := vs) rfl q
  refine wpAny_bind (wpAny_bind (wpAny_field ho hd (x := .none) rfl (wpAny_bind (wpAny_field ho hd (x := .none) rfl (wpAny_bind (f2 (wpAny_pure ?_)))))))
  refine wpAny_bind (HT.slicePart_ ps ?_)
  show wpAny _ _ (if ((-1 : Int) == 0) = true then _ else _) _ _ s
  rw [if_neg (by decide)]
  refine wpAny_bind (HT.slicePart_ .none (wpAny_bind (HT.slicePart_ .none (wpAny_bind (wpAny_pure ?_)))))
  show wpAny _ _ (match Builtin.Slice.sliceAdjust none none (-1) (n : Int) with | (lo, hi) => pure (lo, (-1 : Int), Builtin.Slice.slicePlaces lo hi (-1))) _ _ s
  rw [adj_rev]
  show wpAny _ _ (pure ((n : Int) - 1, (-1 : Int), Builtin.Slice.slicePlaces ((n : Int) - 1) (-1) (-1))) _ _ s
  rw [pl_rev]
  exact wpAny_pure h
theorem getItem_rev {t sl : Addr} {items : Array Value} {vs : Value} {Q : Value → Shared → Prop} (ht : IsTup s.heap t items) (hs : s.heap.IsSliceOf sl .none .none vs) (ps : IsPart vs (some (-1)))
    (h : Q (.ref s.heap.objs.size) { s with heap := s.heap.push { cls := .type "tuple", data := .seq items.toList.reverse.toArray } }) (hsz : items.size ≤ sizeLine) :
    wpAny (model prog w) A (getItem (.ref t) (.ref sl)) Q E s := by
  have hz : sizeOk (.seq items.toList.reverse.toArray) := by
    show items.toList.reverse.toArray.size ≤ sizeLine
    rw [List.size_toArray, List.length_reverse, Array.length_toList]; exact hsz
  obtain ⟨os, ho, hc, hd⟩ := id hs
  have tS : s.TypeIs (.ref sl) "slice" := ⟨os, ho, hc⟩
  unfold getItem
  try with_reducible refine wpAny_holding ?_
  first | refine wpAny_bind (wpAny_pure ?_) | skip
  refine wpAny_bind (wpAny_sequenceKey ht.typeIs (by decide) ?_)
  refine wpAny_bind (wpAny_callSpecial?_slot (name := Str.ofString "__getitem__") ht.typeIs PyProof.Rows.slot_tuple_getitem
    (wpAny_call_entry PyProof.Rows.slot_tuple_getitem ht.typeIs PyProof.Rows.entry_tuple_getitem ?_ (PyProof.Rows.args_tuple_getitem _ _)))
  show wpAny _ _ (Builtin.Tuple.tupleItemsOf (.ref t) >>= _) _ _ s
  refine wpAny_bind (PyProof.Rows.tupleItemsOf_ ht ?_)
  refine wpAny_bind (wpAny_typeOf tS ?_)
  rw [if_pos (by decide)]
  refine wpAny_bind (slice_rev hs ps ?_)
  have no : ¬ ((((items.size : Nat) : Int) - 1 == 0 && (-1 : Int) == 1 && items.size == items.size) = true) := by
    rw [show ((-1 : Int) == 1) = false by decide]
    simp
  show wpAny _ _ (if (((items.size : Nat) : Int) - 1 == 0 && (-1 : Int) == 1 && items.size == items.size) = true then _ else _) _ _ s
  rw [if_neg no, fm_revA]
  first
    | exact wpAny_bind (wpAny_newObj_type (wpAny_pure ⟨_, rfl, wpAny_pure h⟩) hz)
    | exact wpAny_bind (wpAny_bind (wpAny_newObj_type (wpAny_pure ⟨_, rfl, wpAny_pure h⟩) hz))
    | exact wpAny_bind (m := Builtin.Tuple.tupleExact _) (wpAny_newObj_type (wpAny_bind (wpAny_pure (wpAny_pure ⟨_, rfl, wpAny_pure h⟩))) hz)
    | exact wpAny_bind (wpAny_bind (m := Builtin.Tuple.tupleExact _) (wpAny_newObj_type (wpAny_pure (wpAny_pure ⟨_, rfl, wpAny_pure h⟩)) hz))
end
def tRvT (K : PySem.W.Frag) (te : TE) : TE := fun σ H Q => te σ H fun x H1 => ∃ a xs, x = .ref a ∧ SqT K H1 a xs ∧ ∀ p, H1 p = none → Q (.ref p) (upd H1 p (.tup xs.reverse))
section
variable {X : Cx}
theorem pe_rvT {e : Expr} {te : TE} {k : Nat} {p1 p2 p3 pos : Pos} (he : PE X e te) : PE X (.Subscript e (.Slice none none (some (.UnaryOp .USub (.Constant (.int 1) k p1) p2)) p3) pos) (tRvT X.K te) := by
  refine ⟨fun pins s σ H Q I h => Subscript_ (thn (he.run pins s σ H _ I h) fun v s1 ⟨x, H1, I1, r1, a, xs, ex, hx, q⟩ => ?_)⟩
  subst ex
  cases r1
  have step : PO X (some (.UnaryOp .USub (.Constant (.int 1) k p1) p2)) (tPart (tUn (rU fun i => .int (-i)) (tC (.int 1)))) := po_some (pe_un un_neg pe_int)
  have none1 := fun {s : Shared} (I : Inv X pins σ H1 s) => (po_none (X := X)).run pins s σ H1 (fun o H2 => o = none ∧ H2 = H1) I ⟨rfl, rfl⟩
  refine wpAny_Slice (thn (none1 I1) fun vl s2 ⟨l, H2, I2, pl, el, e2⟩ => ?_)
  subst el e2
  refine thn (none1 I2) fun vu s3 ⟨u, H3, I3, pu, eu, e3⟩ => ?_
  subst eu e3
  refine thn (step.run pins s3 σ H3 (fun o H4 => o = some (-1) ∧ H4 = H3) I3 ⟨1, rfl, -1, rfl, rfl, rfl⟩) fun vs s4 ⟨o, H4, I4, ps, eo, e4⟩ => ?_
  subst eo e4
  cases pl
  cases pu
  have I5 : Inv X pins σ H4 { s4 with heap := s4.heap.push { cls := .type "slice", data := .fields #[.none, .none, vs] } } := I4.kept (t' := s4.toks) fun b ob q => Heap.get?_push_of_some _ q
  obtain ⟨its, rv, ht, hz⟩ := I5.tuple hx
  refine tail_any (ops := [.ref a, .ref s4.heap.objs.size]) ht.typeIs PyProof.Rows.slot_tuple_getitem.lookup ?_ (by with_unfolding_all rfl)
  refine getItem_rev ht (Heap.IsSliceOf.new _ .none .none vs) ps ?_ (by rw [List.size_toArray, ← rv.length]; exact hz)
  refine ⟨.ref _, _, I5.laid (t' := s4.toks) (o := .tup xs.reverse) (fun b ob q => Heap.get?_push_of_some _ q) (Nat.le_refl _) ?_, rfl, q _ (I5.hok.fresh (Nat.le_refl _))⟩
  exact ⟨by rw [List.length_reverse]; exact hz, _, rv.reverse, IsTup.new _ _⟩
def revTD : F1 := fun d st => match d with
  | .tup xs => .ok (.tup xs.reverse) st
  | _ => .bad
theorem RvL.reverse {Γ : Gm} {mp : List Addr} {H : Hp} : ∀ {ds : List D} {vs : List V}, RvL Γ mp H ds vs → RvL Γ mp H ds.reverse vs.reverse
  | [], vs, h => by simp only [RvL] at h; subst h; exact RvL.nil
  | d :: ds, vs, h => by
    simp only [RvL] at h
    obtain ⟨v, r, rfl, h1, h2⟩ := h
    rw [List.reverse_cons, List.reverse_cons]
    exact (RvL.reverse h2).append (RvL.cons h1 RvL.nil)
theorem x_revT {e : Expr} {me : ME} {k : Nat} {p1 p2 p3 pos : Pos} (he : SE X e me) : SE X (.Subscript e (.Slice none none (some (.UnaryOp .USub (.Constant (.int 1) k p1) p2)) p3) pos) (m1 revTD me) :=
  ⟨fun W tk => PE.imp (pe_rvT (he.run W tk)) fun σ H Q h => by
    obtain ⟨mp, st, ρ, R, E, P⟩ := tG_bind (Rel := Rv (gm X)) (m := me) (k := fun _ d st1 => revTD d st1) h
    refine ⟨mp, st, ρ, R, E, P.mono fun v H1 ⟨mp1, st1, ρ1, d, R1, E1, r1, P1⟩ => ?_⟩
    unfold revTD at P1
    split at P1
    · rename_i xs
      simp only [Rv] at r1
      obtain ⟨a, vs, rfl, q, r⟩ := r1
      exact ⟨a, vs, rfl, q.sq, post_tup P1 R1 r.reverse⟩
    · exact P1.elim⟩
end
end VI
set_option maxHeartbeats 4000000
/-! VI 22: dict comprehensions whose keys are tuples. -/
namespace VI
open PySem PySem.Spec PyProof.Rows L2

/-- a tuple's key stored by a comprehension -/
theorem d_setT {X : Cx} {pins : List (Addr × Obj)} {σ : L2.St} {H : Hp} {s : Shared} {E : Value → Shared → Prop} {Dd b : Addr} {kvs : List (List Key × V)} {k : List Key} {v : V} {r : Value} {Q : Unit → Shared → Prop}
    (hu : X.A.units < cLine) (I : Inv X pins σ H s) (hD : H Dd = some (.dT kvs)) (hl : kvs.length < sizeLine) (hb : H b = some (.tup (k.map L2.kV))) (rv : RelV v r)
    (go : ∀ s', Inv X pins σ (upd H Dd (.dT (putK kvs k v))) s' → Q () s') : wpAny (model X.prog X.w) X.A (dictSet Dd (.ref b) r) Q E s := by
  obtain ⟨z, lo, xs, kt, dd⟩ := dt_of I.hok hD
  have z2 : xs.length ≤ sizeLine := Nat.le_trans (Nat.le_of_eq (Paired.length kt).symm) z
  have z3 : (putK kvs k v).length ≤ sizeLine := by have := length_putK kvs k v; omega
  refine wpAny_dictSet_heap (show (tupleKind (mixKind X.prog X.w)).room X.A from hu) (L2.key_of I.hok hb) dd (fun h' dd' sb => go _ ?_) z2
  obtain ⟨o, es, ep, ho, f1, f2, f3, _, f4⟩ := dd'
  refine d_write I (by rw [hD]; exact True.intro) sb ⟨o, ho⟩ ⟨z3, lo, _, (kt.put k hb rv).keeps fun c ys ec => ?_, o, es, ep, ho, f1, f2, f3, f4⟩
  have ne : c ≠ Dd := fun e => by rw [e, hD] at ec; cases ec
  rw [upd_ne ne]; exact ec
section
variable {X : Cx}
/-- {k: v for .. in .. if ..} with tuples for keys -/
def tDcT (wi : TI) (g : TG) (tt : TT) (tk tv : TE) (vs : List Nat) : TE := fun σ H Q => wi σ H fun J H1 => ∀ Dd, H1 Dd = none →
  ∃ W : Nat → Nat → Hp → Prop, (∃ m, W 0 m (upd H1 Dd (.dT []))) ∧ ∀ i m H, W i m H → (J.stop i H ∧ Q (.ref Dd) H) ∨
    (J.go i H ∧ ∃ Nx : Hp → Prop, (∀ H', Nx H' → ∃ m', m' < m ∧ W (i + 1) m' H') ∧ ∀ x H', J.yld i H x H' → g x (wipe σ vs) H' fun σ2 H2 => wipe σ2 vs = wipe σ vs ∧ tt σ2 H2 fun b H3 =>
      if b = true then tk σ2 H3 fun y H4 => tv σ2 H4 fun z H5 => ∃ kvs k a, y = .ref a ∧ H5 a = some (.tup (k.map L2.kV)) ∧ H5 Dd = some (.dT kvs) ∧ kvs.length < sizeLine ∧ Nx (upd H5 Dd (.dT (putK kvs k z))) else Nx H3)
theorem pe_dcT {kx vx tg iter : Expr} {ifs : List Expr} {scope : Scope} {own : List (Str × Nat)} {pos : Pos} {wi : TI} {g : TG} {tt : TT} {tk tv : TE} (hu : X.A.units < cLine) (calm : X.calm = true) (nd : X.N.Nodup) (hi : PI X tg iter wi) (ok : BlkOk X.N X.env.scope scope own)
    (hg : ∀ (s : Shared) (H : Hp) (C : Addr) (cl : List (Str × Addr)) (fp : List Addr), PG (X.blk s H scope (compEnvC scope cl C X.env) fp) tg g)
    (ht : ∀ (s : Shared) (H : Hp) (C : Addr) (cl : List (Str × Addr)) (fp : List Addr), PTs (X.blk s H scope (compEnvC scope cl C X.env) fp) ifs tt)
    (hk : ∀ (s : Shared) (H : Hp) (C : Addr) (cl : List (Str × Addr)) (fp : List Addr), PE (X.blk s H scope (compEnvC scope cl C X.env) fp) kx tk)
    (hv : ∀ (s : Shared) (H : Hp) (C : Addr) (cl : List (Str × Addr)) (fp : List Addr), PE (X.blk s H scope (compEnvC scope cl C X.env) fp) vx tv) (hs : ∀ x, foldedSetIterable iter X.env x = pure x := by intro _; rfl) :
    PE X (.DictComp kx vx [⟨tg, iter, ifs, 0⟩] scope pos) (tDcT wi g tt tk tv (own.map (·.2))) := by
  refine ⟨fun pins s σ H Q I t => ?_⟩
  rw [arm_eval_DictComp]
  have cells : ∀ y ∈ scope.names, y.2 = .free → ∃ c, X.env.cells.lookup y.1 = some c := fun y hy e => by
    rcases ok.free y hy e with f | f
    · exact I.ok.has _ (.inl f)
    · exact I.ok.has _ (.inr f)
  refine wpAny_comprehension_free rfl hs (closure_ok cells) ok.kind (fun y hy e => by rw [ok.uniq y hy, e]) (thn (hi.run pins s σ H _ I t) fun _ s1 gen => thn gen fun _ s2 got => ?_)
  obtain ⟨it, fp, tn, J, H2, e, I2, T, tn2, ff, rest⟩ := got
  subst e
  refine wpAny_newObj_type (newEnv_comp ?_)
  generalize eD : s2.heap.objs.size = Dd
  have fresh : H2 Dd = none := I2.hok.fresh (Nat.le_of_eq eD)
  obtain ⟨W, ⟨lim, start⟩, turn⟩ := rest Dd fresh
  generalize es3 : ({ s2 with heap := s2.heap.push { cls := .type "dict", data := .dict #[] } } : Shared) = s3
  have heap3 : s3.heap = s2.heap.push { cls := .type "dict", data := .dict #[] } := by rw [← es3]
  have I3 : Inv X pins σ (upd H2 Dd (.dT [])) s3 := by
    rw [← es3]
    refine I2.laid (t' := s2.toks) (fun _ _ q => Heap.get?_push_of_some _ q) (Nat.le_of_eq eD) ?_
    rw [← eD]; exact dt_empty s2.heap I2.big
  have keep3 : ∀ {b : Addr} {q : Obj}, s2.heap.get? b = some q → s3.heap.get? b = some q := fun z => by rw [heap3]; exact Heap.get?_push_of_some _ z
  have ff3 : ∀ b ∈ fp, FpOk X pins (upd H2 Dd (.dT [])) b ∧ b < s3.heap.objs.size := fun b hb => by
    obtain ⟨q, hq, _⟩ := T.obj _ _ tn2 b hb
    have lt := Heap.lt_size hq
    exact ⟨⟨by rw [upd_ne (by rw [← eD]; exact Nat.ne_of_lt lt)]; exact (ff b hb).1, (ff b hb).2⟩, by rw [heap3, Heap.size_push]; exact Nat.lt_succ_of_lt lt⟩
  have tn3 : tn 0 s3.heap := T.keep _ _ _ tn2 fun _ _ _ z => keep3 z
  have I4 := block_start I3 ok nd ff3
  -- the block's own rules
  have g4 := hg s3 (upd H2 Dd (.dT [])) s3.heap.objs.size (cellsFrom (s3.heap.objs.size + 1) scope.names (cloFrom X.env.cells scope.names [])) fp
  have t4 := ht s3 (upd H2 Dd (.dT [])) s3.heap.objs.size (cellsFrom (s3.heap.objs.size + 1) scope.names (cloFrom X.env.cells scope.names [])) fp
  have k4 := hk s3 (upd H2 Dd (.dT [])) s3.heap.objs.size (cellsFrom (s3.heap.objs.size + 1) scope.names (cloFrom X.env.cells scope.names [])) fp
  have v4 := hv s3 (upd H2 Dd (.dT [])) s3.heap.objs.size (cellsFrom (s3.heap.objs.size + 1) scope.names (cloFrom X.env.cells scope.names [])) fp
  generalize eC : compEnvC scope (cellsFrom (s3.heap.objs.size + 1) scope.names (cloFrom X.env.cells scope.names [])) s3.heap.objs.size X.env = cenv at I4 g4 t4 k4 v4
  show codeAny _ _ (.compStart (.DictComp kx vx [⟨tg, iter, ifs, 0⟩] scope pos) 0 (.ref it) (.ref Dd) (compEnvC scope (cellsFrom (s3.heap.objs.size + 1) scope.names (cloFrom X.env.cells scope.names [])) s3.heap.objs.size X.env))
    (compPost (model X.prog X.w) X.A X.xe none (EP X pins σ Q) (.ref Dd) s3.heap.objs.size) { s3 with heap := pushCells (s3.heap.push { cls := .type "dict", data := .dict #[] }) scope.names }
  rw [eC]
  have locs : cenv.locals = s3.heap.objs.size := by subst eC; rfl
  have fpn : ∀ b ∈ fp, (upd H2 Dd (.dT [])) b = none := fun b hb => (ff3 b hb).1.1
  generalize eH : upd H2 Dd (.dT []) = H3 at I3 I4 g4 t4 k4 v4 start fpn ff3
  generalize es4 : ({ s3 with heap := pushCells (s3.heap.push { cls := .type "dict", data := .dict #[] }) scope.names } : Shared) = s4 at I4 ⊢
  have tn4 : tn 0 s4.heap := T.keep _ _ _ tn3 fun _ _ _ z => by rw [← es4]; exact pushCells_keeps _ _ _ _ (Heap.get?_push_of_some _ z)
  have stand : ∀ {σ' : L2.St} {H' : Hp} {s' : Shared}, Inv (X.blk s3 H3 scope cenv fp) [] σ' H' s' → (∀ b ∈ fp, H' b = none) → ∀ b ∈ fp, FpOk (X.blk s3 H3 scope cenv fp) [] H' b := fun J' n b hb =>
    ⟨n b hb, (J'.ok.exf b hb).1, J'.ok.exfs b hb, .inl hb, fun x c e => (J'.ok.exf b hb).2 x c e, fun p hp => absurd (show p ∈ ([] : List (Addr × Obj)) ++ [] from hp) (by simp)⟩
  refine codeAny_compStart_dict ?_ (T.self X.A 0 _ _ _ tn4 ?_)
  all_goals
    refine compLoop_anyD (fun m s' => ∃ i H', Inv (X.blk s3 H3 scope cenv fp) [] (wipe σ (own.map (·.2))) H' s' ∧ tn i s'.heap ∧ (∀ b ∈ fp, H' b = none) ∧ W i m H') ?_ lim ⟨0, H3, I4, tn4, fpn, start⟩
    rintro m s5 ⟨i, H5, I5, tn5, n5, w5⟩
    rcases turn i m H5 w5 with ⟨stop, done⟩ | ⟨more, Nx, lead, each⟩
    · refine thnF (T.done (X.blk s3 H3 scope cenv fp) rfl rfl rfl calm i [] s5 _ H5 (fun _ _ => False) I5 (stand I5 n5) tn5 stop) fun r s6 ⟨er, I6⟩ => ?_
      subst er
      have I7 : Inv X pins σ H5 s6 := I3.call' (ch := fp) I6.os I6.base I6.hok I6.bare fun b hb => ⟨(ff3 b hb).1.2.2.2.1, (ff3 b hb).1.2.1, (ff3 b hb).1.2.2.2.2.1, (ff3 b hb).1.2.2.2.2.2⟩
      have free : H5 s3.heap.objs.size = none := by
        have z : H5 cenv.locals = none := I6.free
        rwa [locs] at z
      obtain ⟨mm, ns, _⟩ := I6.loc
      have ns : s6.heap.Ns cenv.locals mm := ns
      rw [locs] at ns
      refine ⟨mm, ns, fun h'' same => ?_⟩
      obtain ⟨c0, c1, c2, c3, c4, c5⟩ := I3.fpOk (H' := H5) (Nat.le_refl _) free
      exact ⟨.ref Dd, H5, I7.turned (t' := s6.toks) (fun b o hb e => (same.2 b hb).trans e) c0 c1 c3 c4 c5, rfl, done⟩
    · refine thnF (T.item (X.blk s3 H3 scope cenv fp) rfl rfl rfl calm i [] s5 _ H5 (fun _ _ => False) I5 (stand I5 n5) tn5 more) fun r s6 ⟨u, er, got6⟩ => ?_
      subst er
      refine thnF got6 fun _ s7 ⟨x, H7, I7, r7, y7, tn7, n7⟩ => ?_
      refine thnF (g4.run _ s7 _ H7 x u _ (I7.pinned (stand I7 n7) (T.obj _ _ tn7)) r7 (each x H7 y7)) fun _ s8 ⟨σ8, H8, I8, w8, q8⟩ => ?_
      refine thnF (t4.run _ s8 σ8 H8 _ I8 q8) fun yes s9 ⟨H9, I9, q9⟩ => ?_
      have next : ∀ {s' : Shared} {H' : Hp}, Inv (X.blk s3 H3 scope cenv fp) ([] ++ pinsAt fp s7.heap) σ8 H' s' → Nx H' →
          ∃ m', m' < m ∧ ∃ i H', Inv (X.blk s3 H3 scope cenv fp) [] (wipe σ (own.map (·.2))) H' s' ∧ tn i s'.heap ∧ (∀ b ∈ fp, H' b = none) ∧ W i m' H' := fun {s' H'} J' nx => by
        obtain ⟨m', lt, w'⟩ := lead H' nx
        have still : ∀ b ∈ fp, ∀ o, s7.heap.get? b = some o → s'.heap.get? b = some o ∧ H' b = none := fun b hb o e =>
          let z := J'.pin (b, o) (List.mem_append_right _ (List.mem_append_right _ (mem_pinsAt hb e)))
          ⟨z.1, z.2.1⟩
        refine ⟨m', lt, i + 1, H', (J'.unpinned (pins := [])).weak (by rw [← w8, wipe_length]) (fun j v e => ?_), T.keep _ _ _ tn7 fun b hb o e => (still b hb o e).1, fun b hb => ?_, w'⟩
        · rw [← w8] at e; exact (wipe_some e).1
        · obtain ⟨o, e, _⟩ := T.obj _ _ tn7 b hb
          exact (still b hb o e).2
      cases yes with
      | false =>
        simp only [Bool.false_eq_true, if_false] at q9 ⊢
        exact next I9 q9
      | true =>
        simp only [if_true] at q9 ⊢
        refine thnF (k4.run _ s9 σ8 H9 _ I9 q9) fun a1 s10 ⟨yk, H10, I10, ra, q10⟩ => thnF (v4.run _ s10 σ8 H10 _ I10 q10) fun a2 s11 ⟨yv, H11, I11, rb, kvs, k, a, ek, ea, eDd, sz, nx⟩ => ?_
        subst ek
        cases ra
        exact d_setT (X := X.blk s3 H3 scope cenv fp) hu I11 eDd sz ea rb fun s12 I12 => next I12 nx
end

def pushT (n : Nat) (o : Option (D × D)) (st : Mem) : Res Unit := match o with
  | none => .ok () st
  | some p => match st[n]? with
    | some (.dT kvs) => match p.1 with
      | .tup xs => match keysD xs with
        | some k => if kvs.length < LINE then .ok () (st.set n (.dT (putD kvs k p.2))) else .bad
        | none => .bad
      | _ => .bad
    | _ => .bad
def dtL (n : Nat) : List D → (D → Mem → Res (Option (D × D))) → Mem → Res Unit
  | [], _, st => .ok () st
  | d :: ds, f, st => (f d st).bind fun o st1 => (pushT n o st1).bind fun _ st2 => dtL n ds f st2
def mDCT (mi : ML) (g : MG) (t : MB) (mk mv : ME) (vs : List Nat) : ME := fun ρ st => (mi ρ st).bind fun ds st1 => (dtL st1.length ds (VI.stepK g t mk mv vs ρ) (st1 ++ [.dT []])).bind fun _ st2 => .ok (.loc st1.length) st2
theorem tDcT_of {Γ : Gm} {W : WX} {σ : L2.St} {H : Hp} {Q : VK} {mi : ML} {g : MG} {t : MB} {mk mv : ME} {vs us : List Nat} (hus : ∀ j, j ∈ us → j ∈ vs) (h : tE Γ W (mDCT mi g t mk mv vs) σ H Q) :
    tDcT (tG Γ (WalkRel Γ) W mi) (tN Γ us g) (tB' Γ W0 t) (tE Γ W0 mk) (tE Γ W0 mv) vs σ H Q := by
  obtain ⟨mp, st, ρ, R, re, P⟩ := tG_bind (Rel := WalkRel Γ) (m := mi) (k := fun ρ ds st1 => (dtL st1.length ds (VI.stepK g t mk mv vs ρ) (st1 ++ [.dT []])).bind fun _ st2 => .ok (D.loc st1.length) st2) h
  refine ⟨mp, st, ρ, R, re, P.mono fun J H1 ⟨mp1, st1, ρ1, ds, R1, re1, w1, P1⟩ A hA => ?_⟩
  have xA : Ext mp1 H1 (mp1 ++ [A]) (upd H1 A (.dT [])) := ext_cell hA
  have RA : RelM Γ (mp1 ++ [A]) (upd H1 A (.dT [])) (st1 ++ [.dT []]) := R1.push hA ⟨[], upd_same, rfl, RvL.nil⟩
  obtain ⟨G, Y, w, hG, hY⟩ := w1.ext xA
  have nA : (mp1 ++ [A])[st1.length]? = some A := by rw [← R1.len]; simp
  refine walk_it w (fun i H2 => ∃ mp2 st2, Ext (mp1 ++ [A]) (upd H1 A (.dT [])) mp2 H2 ∧ RelM Γ mp2 H2 st2 ∧
      Post Γ mp1 H1 ((dtL st1.length (ds.drop i) (VI.stepK g t mk mv vs ρ1) st2).bind fun _ st3 => Res.ok (D.loc st1.length) st3) Q (fun c d H' => W c d σ H'))
    ?start ?G ?turn ?fin
  case start => exact ⟨_, _, Ext.refl _ _, RA, P1⟩
  case G => exact fun i H2 _ ⟨mp2, _, x2, _⟩ => hG mp2 H2 x2
  case fin =>
    rintro H2 ⟨mp2, st2, x2, R2, P2⟩
    rw [List.drop_length] at P2
    simp only [dtL, Res.ok_bind] at P2
    exact P2 mp2 H2 _ (xA.trans x2) R2 (by simp only [Rv]; exact ⟨A, rfl, x2.pre _ _ nA⟩)
  case turn =>
    rintro i x H2 H3 hlt ⟨mp2, st2, x2, R2, P2⟩ y
    obtain ⟨sm, d, hd, rd⟩ := hY mp2 H2 st2 i x H3 x2 R2 hlt y
    have ed : ds.drop i = d :: ds.drop (i + 1) := by rw [List.drop_eq_getElem_cons hlt]; congr 1; rw [List.getElem?_eq_getElem hlt] at hd; exact Option.some.inj hd
    rw [ed] at P2
    have x3 : Ext mp2 H2 mp2 H3 := ext_same sm
    have xx3 := x2.trans x3
    refine ⟨mp2, st2, wipeE ρ1 vs, d, R2.same sm, wipeE_rel (re1.ext (xA.trans xx3)) vs, rd, ?_⟩
    unfold dtL VI.stepK at P2
    cases eg : g d (wipeE ρ1 vs) st2 with
    | nx ρ4 st4 =>
      simp only [eg] at P2
      intro mp4 H4 σ4 x4 R4 re4 l4 k4
      have xx4 := xx3.trans x4
      refine ⟨wipe_same l4 fun j hj => k4 j fun z => hj (hus j z), mp4, st4, ρ4, R4, re4, ?_⟩
      cases et : t ρ4 st4 with
      | bad => rw [et] at P2; exact P2.elim
      | exc e s => rw [et] at P2; exact P2.elim
      | ok b st5 =>
        simp only [et, Res.noX_ok, Res.ok_bind] at P2
        intro mp5 H5 b' x5 R5 rb
        cases rb
        have xx5 := xx4.trans x5
        cases b with
        | false =>
          simp only [Bool.false_eq_true, if_false, Res.ok_bind, pushT] at P2
          rw [if_neg Bool.false_ne_true]
          exact ⟨mp5, st5, xx5, R5, P2⟩
        | true =>
          simp only [if_true] at P2
          rw [if_pos rfl]
          refine ⟨mp5, st5, ρ4, R5, re4.ext x5, ?_⟩
          cases ee : mk ρ4 st5 with
          | bad => rw [ee] at P2; exact P2.elim
          | exc e s => rw [ee] at P2; exact P2.elim
          | ok z st6 =>
            simp only [ee, Res.noX_ok, Res.ok_bind] at P2
            intro mp6 H6 v x6 R6 rz
            have xx6 := xx5.trans x6
            refine ⟨mp6, st6, ρ4, R6, (re4.ext x5).ext x6, ?_⟩
            cases ev : mv ρ4 st6 with
            | bad => rw [ev] at P2; exact P2.elim
            | exc e s => rw [ev] at P2; exact P2.elim
            | ok q st7 =>
              simp only [ev, Res.noX_ok, Res.ok_bind, pushT] at P2
              intro mp7 H7 u x7 R7 rq
              have xx7 := xx6.trans x7
              split at P2
              · rename_i acc hacc
                obtain ⟨vs', h1, h2, h3⟩ := R7.cell _ _ A hacc (xx7.pre _ _ nA)
                split at P2
                · rename_i zs
                  split at P2
                  · rename_i k hk
                    split at P2
                    · rename_i hl
                      simp only [Res.ok_bind] at P2
                      have rz7 := Rv.ext x7 _ _ rz
                      simp only [Rv] at rz7
                      obtain ⟨a, us, ea, ha, ra⟩ := rz7
                      have eu := keys_of ra hk
                      subst eu
                      have hlen := congrArg List.length h2
                      simp only [List.length_map] at hlen
                      obtain ⟨p1, p2⟩ := put_of (k := k) h2 h3 rq
                      refine ⟨vs', k, a, ea, ha.1, h1, by rw [hlen, sizeLine_eq]; exact hl, mp7, _, xx7.trans (ext_write (List.mem_of_getElem? (xx7.pre _ _ nA))), R7.write (c := .dT (putD acc k q)) (xx7.pre _ _ nA) h1 (show ∃ vs, _ = some (HO.dT vs) ∧ _ from ⟨_, upd_same, p1, ?_⟩), P2⟩
                      exact RvL.ext (ext_write (List.mem_of_getElem? (xx7.pre _ _ nA))) _ _ p2
                    · exact P2.elim
                  · exact P2.elim
                · exact P2.elim
              · exact P2.elim
    | _ => simp only [eg] at P2; exact P2.elim
section
variable {X : Cx} {kx vx tg iter : Expr} {ifs : List Expr} {scope : Scope} {own : List (Str × Nat)} {pos : Pos} {mi : ML} {g : MG} {t : MB} {mk mv : ME} {us : List Nat} {k : Nat}
theorem se_dcT (c : XC k X) (hi : SI X tg iter mi) (ok : blkC X.N X.env.scope scope own = true) (hus : ∀ j, j ∈ us → j ∈ own.map (·.2))
    (hg : ∀ (s : Shared) (H : Hp) (C : Addr) (cl : List (Str × Addr)) (fp : List Addr), XC k (X.blk s H scope (compEnvC scope cl C X.env) fp) → SG (X.blk s H scope (compEnvC scope cl C X.env) fp) tg us g)
    (ht : ∀ (s : Shared) (H : Hp) (C : Addr) (cl : List (Str × Addr)) (fp : List Addr), XC k (X.blk s H scope (compEnvC scope cl C X.env) fp) → STs (X.blk s H scope (compEnvC scope cl C X.env) fp) ifs t)
    (hk : ∀ (s : Shared) (H : Hp) (C : Addr) (cl : List (Str × Addr)) (fp : List Addr), XC k (X.blk s H scope (compEnvC scope cl C X.env) fp) → SE (X.blk s H scope (compEnvC scope cl C X.env) fp) kx mk)
    (he : ∀ (s : Shared) (H : Hp) (C : Addr) (cl : List (Str × Addr)) (fp : List Addr), XC k (X.blk s H scope (compEnvC scope cl C X.env) fp) → SE (X.blk s H scope (compEnvC scope cl C X.env) fp) vx mv)
    (hs : ∀ x, foldedSetIterable iter X.env x = pure x := by intro _; rfl) : SE X (.DictComp kx vx [⟨tg, iter, ifs, 0⟩] scope pos) (mDCT mi g t mk mv (own.map (·.2))) :=
  ⟨fun W tk => PE.imp (pe_dcT (own := own) (by have := c.xr.room.units; omega) c.calm c.nd (hi.run W tk) (blkOk_by ok) (fun s H C cl fp => (hg s H C cl fp (c.blk _ _ _ _ _)).run) (fun s H C cl fp => (ht s H C cl fp (c.blk _ _ _ _ _)).run W0 takes0) (fun s H C cl fp => (hk s H C cl fp (c.blk _ _ _ _ _)).run W0 takes0) (fun s H C cl fp => (he s H C cl fp (c.blk _ _ _ _ _)).run W0 takes0) hs)
    fun σ H Q q => tDcT_of hus q⟩
end
end VI
set_option maxHeartbeats 4000000
/-! VI 23: sum of a list of ints. -/
namespace VI
open PySem PySem.Spec PyProof.Rows L2
theorem x_sum {X : Cx} {k : Nat} {e : Expr} {ms : List ME} {p pos : Pos} (c : XC k X) (hm : X.mg "sum" = none) (ha : SA X [e] ms) (hg : Gl X "sum" := by rfl)
    (he : starEach [e] X.env = (false, eval e X.env) :: starEach [] X.env := by rfl) : SE X (.Call (.Name "sum" p) [e] [] pos) (mF (f1 sumD) ms) :=
  se_callB (cr_sum c.calm) srv_sum (by first | exact PyProof.Rows.boot_sum | exact PySem.boot_sum | rfl) hg hm ha (he := he)
end VI
set_option maxHeartbeats 0
namespace G15
open PySem PySem.Spec PyProof.Rows L2 VI
def topS (i : Nat) : Stmt := PySem.Challenge.pw_timesindoubt_k15_whole_fixed_times.main.body.getD i (.Pass ⟨0, 0, 0, 0⟩)
def clsS (i j : Nat) : Stmt := match topS i with
  | .ClassDef (body := b) .. => b.getD j (.Pass ⟨0, 0, 0, 0⟩)
  | _ => .Pass ⟨0, 0, 0, 0⟩
abbrev s_is_whole : Stmt := topS 3
abbrev s_is_count : Stmt := topS 4
abbrev s_is_link : Stmt := topS 10
abbrev s_are_links : Stmt := topS 11
abbrev s_is_gap : Stmt := topS 12
abbrev s_are_gaps : Stmt := topS 13
abbrev s_is_network_in : Stmt := topS 14
abbrev s_need_network : Stmt := topS 15
abbrev s_ends_in : Stmt := topS 16
abbrev s_ours_in : Stmt := topS 17
abbrev s_is_word : Stmt := topS 19
abbrev s_bases_in : Stmt := topS 20
abbrev s_tight_in : Stmt := topS 21
abbrev s_ring_from : Stmt := topS 22
abbrev s_soonest_in : Stmt := topS 23
abbrev s_fixed_in : Stmt := topS 24
abbrev s_fixed_answer : Stmt := topS 25
abbrev s_is_name_of : Stmt := topS 27
abbrev s_is_ring_in : Stmt := topS 26
abbrev s_are_times_in : Stmt := topS 28
abbrev s_is_fixed_in : Stmt := topS 29
abbrev s_is_fixed_answer : Stmt := topS 30
abbrev s__law_pen : Stmt := topS 32
abbrev s__law_draw : Stmt := topS 33
abbrev s__law_pick : Stmt := topS 34
abbrev s__law_shuffled : Stmt := topS 35
abbrev s__law_network : Stmt := topS 36
abbrev s__law_ours : Stmt := topS 37
abbrev s__law_lengths : Stmt := topS 38
abbrev s__law_kept : Stmt := topS 39
abbrev s__law_play : Stmt := topS 40
abbrev s__law_times : Stmt := topS 41
abbrev s__law_rows : Stmt := topS 42
abbrev s__law_ring_right : Stmt := topS 43
abbrev s__law_always : Stmt := topS 44
abbrev s_law : Stmt := topS 45
abbrev s_BadNetwork_init : Stmt := clsS 2 0
def fs_BadNetwork : List Str := ["network"]
def xo_all : List Str := ["DoubtError", "BadNetwork"]
/-- what the top has left -/
structure Txt (K : PySem.W.Frag) (mg : Str → Option Value) : Prop where
  f_all : mg "all" = none
  f_any : mg "any" = none
  f_bool : mg "bool" = none
  f_enumerate : mg "enumerate" = none
  f_int : mg "int" = none
  f_isinstance : mg "isinstance" = none
  f_len : mg "len" = none
  f_list : mg "list" = none
  f_min : mg "min" = none
  f_range : mg "range" = none
  f_sorted : mg "sorted" = none
  f_str : mg "str" = none
  f_sum : mg "sum" = none
  f_tuple : mg "tuple" = none
  f_zip : mg "zip" = none
  t_is_whole : DefT K mg "is_whole" s_is_whole
  t_is_count : DefT K mg "is_count" s_is_count
  t_is_link : DefT K mg "is_link" s_is_link
  t_are_links : DefT K mg "are_links" s_are_links
  t_is_gap : DefT K mg "is_gap" s_is_gap
  t_are_gaps : DefT K mg "are_gaps" s_are_gaps
  t_is_network_in : DefT K mg "is_network_in" s_is_network_in
  t_need_network : DefT K mg "need_network" s_need_network
  t_ends_in : DefT K mg "ends_in" s_ends_in
  t_ours_in : DefT K mg "ours_in" s_ours_in
  t_is_word : DefT K mg "is_word" s_is_word
  t_bases_in : DefT K mg "bases_in" s_bases_in
  t_tight_in : DefT K mg "tight_in" s_tight_in
  t_ring_from : DefT K mg "ring_from" s_ring_from
  t_soonest_in : DefT K mg "soonest_in" s_soonest_in
  t_fixed_in : DefT K mg "fixed_in" s_fixed_in
  t_fixed_answer : DefT K mg "fixed_answer" s_fixed_answer
  t_is_name_of : DefT K mg "is_name_of" s_is_name_of
  t_is_ring_in : DefT K mg "is_ring_in" s_is_ring_in
  t_are_times_in : DefT K mg "are_times_in" s_are_times_in
  t_is_fixed_in : DefT K mg "is_fixed_in" s_is_fixed_in
  t_is_fixed_answer : DefT K mg "is_fixed_answer" s_is_fixed_answer
  t__law_pen : DefT K mg "_law_pen" s__law_pen
  t__law_draw : DefT K mg "_law_draw" s__law_draw
  t__law_pick : DefT K mg "_law_pick" s__law_pick
  t__law_shuffled : DefT K mg "_law_shuffled" s__law_shuffled
  t__law_network : DefT K mg "_law_network" s__law_network
  t__law_ours : DefT K mg "_law_ours" s__law_ours
  t__law_lengths : DefT K mg "_law_lengths" s__law_lengths
  t__law_kept : DefT K mg "_law_kept" s__law_kept
  t__law_play : DefT K mg "_law_play" s__law_play
  t__law_times : DefT K mg "_law_times" s__law_times
  t__law_rows : DefT K mg "_law_rows" s__law_rows
  t__law_ring_right : DefT K mg "_law_ring_right" s__law_ring_right
  t__law_always : DefT K mg "_law_always" s__law_always
  t_law : DefT K mg "law" s_law
  k_MOST_NUMBER : ∃ t, mg "MOST_NUMBER" = some (.int 99 t)
  k_MOST_LINKS : ∃ t, mg "MOST_LINKS" = some (.int 3 t)
  k_MOST_GAPS : ∃ t, mg "MOST_GAPS" = some (.int 15 t)
  k_MOST_MOMENTS : ∃ t, mg "MOST_MOMENTS" = some (.int 6 t)
  c_BadNetwork : ClsT K mg "BadNetwork" "BadNetwork.__init__" s_BadNetwork_init fs_BadNetwork
section
variable {P : Program} {w : World} {K : PySem.W.Frag} {mg : Str → Option Value} {base : Heap}
theorem mk_BadNetwork (T : Txt K mg) : MkS P w K mg base 1 "BadNetwork" fs_BadNetwork :=
  mkS_1 T.c_BadNetwork (N := ["self", "network"]) rfl ⟨rfl, rfl, rfl, by decide +kernel, rfl, by decide +kernel, by decide +kernel⟩ (fun _ _ _ _ _ _ us hl => match us, hl with | [_, _], _ => rfl) fun _ _ _ _ _ _ _ => pss_one (ps_ost (pv 0) (pv 1))
def m_is_whole : MS := sRet (mAndV (m1 (isiD ["int"]) (mVar 0)) (mNotV (m1 (isiD ["bool"]) (mVar 0))))
def F_is_whole : FL := fun ds st0 => (fun _ r => r) st0 (bodyF m_is_whole 1 ds st0)
theorem d_is_whole (T : Txt K mg) (B : TabAll K mg base) : DefS P w K mg base 3 "is_whole" ["value"] F_is_whole :=
  def_mk (fun _ r => r) wr_id T.t_is_whole B (N := ["value"]) ⟨rfl, rfl, rfl, by decide +kernel, rfl, by decide +kernel, by decide +kernel⟩ (fun _ _ _ _ _ _ us hl => match us, hl with | [_], _ => rfl) fun _ _ _ _ _ _ _ (c : XC 2 _) (l : XL _) =>
  (ss_one (s_ret (se_and (se_isi (xv 0) (by decide) Boot_int (by rfl) (T.f_isinstance) (by rfl) (T.f_int)) (se_one (se_not (se_isi (xv 0) (by decide) Boot_bool (by rfl) (T.f_isinstance) (by rfl) (T.f_bool)))))))
def m_is_count : MS := sRet (mAndV (mF F_is_whole [mVar 0]) (m2 geD (mVar 0) (mC (.int 0))))
def F_is_count : FL := fun ds st0 => (fun _ r => r) st0 (bodyF m_is_count 1 ds st0)
theorem d_is_count (T : Txt K mg) (B : TabAll K mg base) : DefS P w K mg base 4 "is_count" ["value"] F_is_count :=
  def_mk (fun _ r => r) wr_id T.t_is_count B (N := ["value"]) ⟨rfl, rfl, rfl, by decide +kernel, rfl, by decide +kernel, by decide +kernel⟩ (fun _ _ _ _ _ _ us hl => match us, hl with | [_], _ => rfl) fun _ _ _ _ _ _ _ (c : XC 3 _) (l : XL _) =>
  (ss_one (s_ret (se_and (se_call (d_is_whole T B) c.xr.mono (by rfl) (sa_cons (xv 0) sa_nil) (by rfl)) (se_one (x_ge (xv 0) se_int)))))
def q_is_link_4 : MS := sRet (mAndV (m2 ltD (mVar 2) (mVar 0)) (mAndV (mCh ltD ltD (mC (.int 0)) (mVar 3) (mVar 0)) (mAndV (m2 neD (mVar 2) (mVar 3)) (mCh3 leD leD leD (mC (.int 1)) (mVar 4) (mVar 5) (mC (.int 99))))))
def q_is_link_3 : MS := sSeq (sAsg (mVar 1) (gTp 4 (gsCons (gNm 2) (gsCons (gNm 3) (gsCons (gNm 4) (gsCons (gNm 5) (gsNil))))))) (q_is_link_4)
def m_is_link : MS := sSeq (sIf (mOr (mNot (asT (m1 (isiD ["tuple"]) (mVar 1)))) (mOr (asB (m2 neD (mF (f1 lenD) [mVar 1]) (mC (.int 4)))) (mNot (asT (mF (f1 allD) [mLC finF (mIt (mVar 1)) (gNm 6) (mYes) (mF F_is_count [mVar 6]) [6]]))))) (sRet (mC (.bl false))) (sNil)) (q_is_link_3)
def F_is_link : FL := fun ds st0 => (fun _ r => r) st0 (bodyF m_is_link 7 ds st0)
theorem d_is_link (T : Txt K mg) (B : TabAll K mg base) : DefS P w K mg base 5 "is_link" ["m", "value"] F_is_link :=
  def_mk (fun _ r => r) wr_id T.t_is_link B (N := ["m", "value", "a", "c", "least", "greatest", "item"]) ⟨rfl, rfl, rfl, by decide +kernel, rfl, by decide +kernel, by decide +kernel⟩ (fun _ _ _ _ _ _ us hl => match us, hl with | [_, _], _ => rfl) fun _ _ _ _ _ _ _ (c : XC 4 _) (l : XL _) =>
  (ss_cons (s_if (sw_or (st_not (t_any (se_isi (xv 1) (by decide) Boot_tuple (by rfl) (T.f_isinstance) (by rfl) (T.f_tuple)))) (sw_or (t_ne c (x_len (T.f_len) (xv 1)) se_int) (sw_or1 (st_not (t_any (x_all c (T.f_all) (se_lc finF_ok c (si_seq (xv 1)) (own := [("item", 6)]) (by rfl) (by decide) (fun _ _ _ _ _ c' => (xg 6 c')) (fun _ _ _ _ _ c' => sts_nil) (fun _ _ _ _ _ c' => (se_call (d_is_count T B) c'.xr.mono (by rfl) (sa_cons (xv 6) sa_nil) (by rfl)))))))))).st (ss_one (s_ret se_bl)) ss_nil)
  (ss_cons (s_asg (xv 1) (sg_tup c.calm (sgs_cons (xg 2 c) (sgs_cons (xg 3 c) (sgs_cons (xg 4 c) (sgs_cons (xg 5 c) sgs_nil))))))
  (ss_one (s_ret (se_and (x_lt c (xv 2) (xv 0)) (se_and (x_chain (op_lt' c.xr) (op_lt' c.xr) srv_lt srv_lt se_int (xv 3) (xv 0)) (se_and (x_ne c (xv 2) (xv 3)) (se_one (x_chain3 op_le op_le op_le srv_le srv_le srv_le se_int (xv 4) (xv 5) (se_constI T.k_MOST_NUMBER (by rfl)))))))))))
def q_are_links_6 : MS := sRet (mNotV (mF (f1 anyD) [mLC finF (mIt (mVar 1)) (gNm 3) (mYes) (m2 inD (m2 ixD (mVar 3) (mC (.int 0))) (mVar 2)) [3]]))
def q_are_links_4 : MS := sSeq (sIf (mNot (asT (mF (f1 allD) [mLC finF (mZip [mVar 2, mSlice mkF (mVar 2) (mPart (mC (.int 1))) mNoPart]) (gTp 2 (gsCons (gNm 4) (gsCons (gNm 5) (gsNil)))) (mYes) (m2 ltD (mVar 4) (mVar 5)) [4, 5]]))) (sRet (mC (.bl false))) (sNil)) (q_are_links_6)
def q_are_links_3 : MS := sSeq (sSet 2 (mLC finF (mIt (mVar 1)) (gNm 3) (mYes) (m2 ixD (mVar 3) (mC (.int 1))) [3])) (q_are_links_4)
def m_are_links : MS := sSeq (sIf (mOr (mNot (asT (m1 (isiD ["tuple"]) (mVar 1)))) (mOr (asB (m2 gtD (mF (f1 lenD) [mVar 1]) (mC (.int 3)))) (mNot (asT (mF (f1 allD) [mLC finF (mIt (mVar 1)) (gNm 3) (mYes) (mF F_is_link [mVar 0, mVar 3]) [3]]))))) (sRet (mC (.bl false))) (sNil)) (q_are_links_3)
def F_are_links : FL := fun ds st0 => (fun _ r => r) st0 (bodyF m_are_links 6 ds st0)
theorem d_are_links (T : Txt K mg) (B : TabAll K mg base) : DefS P w K mg base 6 "are_links" ["m", "value"] F_are_links :=
  def_mk (fun _ r => r) wr_id T.t_are_links B (N := ["m", "value", "ends", "link", "one", "two"]) ⟨rfl, rfl, rfl, by decide +kernel, rfl, by decide +kernel, by decide +kernel⟩ (fun _ _ _ _ _ _ us hl => match us, hl with | [_, _], _ => rfl) fun _ _ _ _ _ _ _ (c : XC 5 _) (l : XL _) =>
  (ss_cons (s_if (sw_or (st_not (t_any (se_isi (xv 1) (by decide) Boot_tuple (by rfl) (T.f_isinstance) (by rfl) (T.f_tuple)))) (sw_or (t_gt (x_len (T.f_len) (xv 1)) (se_constI T.k_MOST_LINKS (by rfl))) (sw_or1 (st_not (t_any (x_all c (T.f_all) (se_lc finF_ok c (si_seq (xv 1)) (own := [("link", 3)]) (by rfl) (by decide) (fun _ _ _ _ _ c' => (xg 3 c')) (fun _ _ _ _ _ c' => sts_nil) (fun _ _ _ _ _ c' => (se_call (d_is_link T B) c'.xr.mono (by rfl) (sa_cons (xv 0) (sa_cons (xv 3) sa_nil)) (by rfl)))))))))).st (ss_one (s_ret se_bl)) ss_nil)
  (ss_cons (xset 2 c (se_lc finF_ok c (si_seq (xv 1)) (own := [("link", 3)]) (by rfl) (by decide) (fun _ _ _ _ _ c' => (xg 3 c')) (fun _ _ _ _ _ c' => sts_nil) (fun _ _ _ _ _ c' => (x_ix c' (xv 3) se_int))))
  (ss_cons (s_if (st_not (t_any (x_all c (T.f_all) (se_lc finF_ok c (si_zip (sa_cons (xv 2) (sa_cons (se_slice mkF_ok (xv 2) (so_some se_int) so_none) sa_nil)) (by rfl) (T.f_zip)) (own := [("one", 4), ("two", 5)]) (by rfl) (by decide) (fun _ _ _ _ _ c' => (sg_tup c'.calm (sgs_cons (xg 4 c') (sgs_cons (xg 5 c') sgs_nil)))) (fun _ _ _ _ _ c' => sts_nil) (fun _ _ _ _ _ c' => (x_lt c' (xv 4) (xv 5))))))) (ss_one (s_ret se_bl)) ss_nil)
  (ss_one (s_ret (se_not (x_any c (T.f_any) (se_lc finF_ok c (si_seq (xv 1)) (own := [("link", 3)]) (by rfl) (by decide) (fun _ _ _ _ _ c' => (xg 3 c')) (fun _ _ _ _ _ c' => sts_nil) (fun _ _ _ _ _ c' => (x_in c' (x_ix c' (xv 3) se_int) (xv 2)))))))))))
def q_is_gap_3 : MS := sRet (mAndV (m2 neD (m2 ixD (mVar 1) (mC (.int 0))) (m2 ixD (mVar 1) (mC (.int 1)))) (mAndV (mF F_is_whole [m2 ixD (mVar 1) (mC (.int 2))]) (mCh leD leD (m1 negD (mC (.int 99))) (m2 ixD (mVar 1) (mC (.int 2))) (mC (.int 99)))))
def m_is_gap : MS := sSeq (sIf (mOr (mNot (asT (m1 (isiD ["tuple"]) (mVar 1)))) (mOr (asB (m2 neD (mF (f1 lenD) [mVar 1]) (mC (.int 3)))) (mNot (asT (mF (f1 allD) [mLC finF (mIt (mSlice mkF (mVar 1) mNoPart (mPart (mC (.int 2))))) (gNm 2) (mYes) (mAndV (mF F_is_count [mVar 2]) (m2 ltD (mVar 2) (mVar 0))) [2]]))))) (sRet (mC (.bl false))) (sNil)) (q_is_gap_3)
def F_is_gap : FL := fun ds st0 => (fun _ r => r) st0 (bodyF m_is_gap 3 ds st0)
theorem d_is_gap (T : Txt K mg) (B : TabAll K mg base) : DefS P w K mg base 5 "is_gap" ["m", "value"] F_is_gap :=
  def_mk (fun _ r => r) wr_id T.t_is_gap B (N := ["m", "value", "item"]) ⟨rfl, rfl, rfl, by decide +kernel, rfl, by decide +kernel, by decide +kernel⟩ (fun _ _ _ _ _ _ us hl => match us, hl with | [_, _], _ => rfl) fun _ _ _ _ _ _ _ (c : XC 4 _) (l : XL _) =>
  (ss_cons (s_if (sw_or (st_not (t_any (se_isi (xv 1) (by decide) Boot_tuple (by rfl) (T.f_isinstance) (by rfl) (T.f_tuple)))) (sw_or (t_ne c (x_len (T.f_len) (xv 1)) se_int) (sw_or1 (st_not (t_any (x_all c (T.f_all) (se_lc finF_ok c (si_seq (se_slice mkF_ok (xv 1) so_none (so_some se_int))) (own := [("item", 2)]) (by rfl) (by decide) (fun _ _ _ _ _ c' => (xg 2 c')) (fun _ _ _ _ _ c' => sts_nil) (fun _ _ _ _ _ c' => (se_and (se_call (d_is_count T B) c'.xr.mono (by rfl) (sa_cons (xv 2) sa_nil) (by rfl)) (se_one (x_lt c' (xv 2) (xv 0)))))))))))).st (ss_one (s_ret se_bl)) ss_nil)
  (ss_one (s_ret (se_and (x_ne c (x_ix c (xv 1) se_int) (x_ix c (xv 1) se_int)) (se_and (se_call (d_is_whole T B) c.xr.mono (by rfl) (sa_cons (x_ix c (xv 1) se_int) sa_nil) (by rfl)) (se_one (x_chain op_le op_le srv_le srv_le (x_neg (se_constI T.k_MOST_NUMBER (by rfl))) (x_ix c (xv 1) se_int) (se_constI T.k_MOST_NUMBER (by rfl)))))))))
def q_are_gaps_3 : MS := sRet (mF (f1 allD) [mLC finF (mZip [mVar 1, mSlice mkF (mVar 1) (mPart (mC (.int 1))) mNoPart]) (gTp 2 (gsCons (gNm 3) (gsCons (gNm 4) (gsNil)))) (mYes) (m2 ltD (mSlice mkF (mVar 3) mNoPart (mPart (mC (.int 2)))) (mSlice mkF (mVar 4) mNoPart (mPart (mC (.int 2))))) [3, 4]])
def m_are_gaps : MS := sSeq (sIf (mOr (mNot (asT (m1 (isiD ["tuple"]) (mVar 1)))) (mOr (asB (m2 gtD (mF (f1 lenD) [mVar 1]) (mC (.int 15)))) (mNot (asT (mF (f1 allD) [mLC finF (mIt (mVar 1)) (gNm 2) (mYes) (mF F_is_gap [mVar 0, mVar 2]) [2]]))))) (sRet (mC (.bl false))) (sNil)) (q_are_gaps_3)
def F_are_gaps : FL := fun ds st0 => (fun _ r => r) st0 (bodyF m_are_gaps 5 ds st0)
theorem d_are_gaps (T : Txt K mg) (B : TabAll K mg base) : DefS P w K mg base 6 "are_gaps" ["m", "value"] F_are_gaps :=
  def_mk (fun _ r => r) wr_id T.t_are_gaps B (N := ["m", "value", "gap", "one", "two"]) ⟨rfl, rfl, rfl, by decide +kernel, rfl, by decide +kernel, by decide +kernel⟩ (fun _ _ _ _ _ _ us hl => match us, hl with | [_, _], _ => rfl) fun _ _ _ _ _ _ _ (c : XC 5 _) (l : XL _) =>
  (ss_cons (s_if (sw_or (st_not (t_any (se_isi (xv 1) (by decide) Boot_tuple (by rfl) (T.f_isinstance) (by rfl) (T.f_tuple)))) (sw_or (t_gt (x_len (T.f_len) (xv 1)) (se_constI T.k_MOST_GAPS (by rfl))) (sw_or1 (st_not (t_any (x_all c (T.f_all) (se_lc finF_ok c (si_seq (xv 1)) (own := [("gap", 2)]) (by rfl) (by decide) (fun _ _ _ _ _ c' => (xg 2 c')) (fun _ _ _ _ _ c' => sts_nil) (fun _ _ _ _ _ c' => (se_call (d_is_gap T B) c'.xr.mono (by rfl) (sa_cons (xv 0) (sa_cons (xv 2) sa_nil)) (by rfl)))))))))).st (ss_one (s_ret se_bl)) ss_nil)
  (ss_one (s_ret (x_all c (T.f_all) (se_lc finF_ok c (si_zip (sa_cons (xv 1) (sa_cons (se_slice mkF_ok (xv 1) (so_some se_int) so_none) sa_nil)) (by rfl) (T.f_zip)) (own := [("one", 3), ("two", 4)]) (by rfl) (by decide) (fun _ _ _ _ _ c' => (sg_tup c'.calm (sgs_cons (xg 3 c') (sgs_cons (xg 4 c') sgs_nil)))) (fun _ _ _ _ _ c' => sts_nil) (fun _ _ _ _ _ c' => (x_lt c' (se_slice mkF_ok (xv 3) so_none (so_some se_int)) (se_slice mkF_ok (xv 4) so_none (so_some se_int)))))))))
def q_is_network_in_3 : MS := sRet (mAndV (mF F_are_links [m2 ixD (mVar 0) (mC (.int 0)), m2 ixD (mVar 0) (mC (.int 1))]) (mF F_are_gaps [m2 ixD (mVar 0) (mC (.int 0)), m2 ixD (mVar 0) (mC (.int 2))]))
def m_is_network_in : MS := sSeq (sIf (mOr (mNot (asT (m1 (isiD ["tuple"]) (mVar 0)))) (mOr (asB (m2 neD (mF (f1 lenD) [mVar 0]) (mC (.int 3)))) (mOr (mNot (asT (mF F_is_whole [m2 ixD (mVar 0) (mC (.int 0))]))) (mNot (asB (mCh leD leD (mC (.int 2)) (m2 ixD (mVar 0) (mC (.int 0))) (mC (.int 6)))))))) (sRet (mC (.bl false))) (sNil)) (q_is_network_in_3)
def F_is_network_in : FL := fun ds st0 => (fun _ r => r) st0 (bodyF m_is_network_in 1 ds st0)
theorem d_is_network_in (T : Txt K mg) (B : TabAll K mg base) : DefS P w K mg base 7 "is_network_in" ["value"] F_is_network_in :=
  def_mk (fun _ r => r) wr_id T.t_is_network_in B (N := ["value"]) ⟨rfl, rfl, rfl, by decide +kernel, rfl, by decide +kernel, by decide +kernel⟩ (fun _ _ _ _ _ _ us hl => match us, hl with | [_], _ => rfl) fun _ _ _ _ _ _ _ (c : XC 6 _) (l : XL _) =>
  (ss_cons (s_if (sw_or (st_not (t_any (se_isi (xv 0) (by decide) Boot_tuple (by rfl) (T.f_isinstance) (by rfl) (T.f_tuple)))) (sw_or (t_ne c (x_len (T.f_len) (xv 0)) se_int) (sw_or (st_not (t_any (se_call (d_is_whole T B) c.xr.mono (by rfl) (sa_cons (x_ix c (xv 0) se_int) sa_nil) (by rfl)))) (sw_or1 (st_not (t_chain op_le op_le srv_le srv_le se_int (x_ix c (xv 0) se_int) (se_constI T.k_MOST_MOMENTS (by rfl)))))))).st (ss_one (s_ret se_bl)) ss_nil)
  (ss_one (s_ret (se_and (se_call (d_are_links T B) c.xr.mono (by rfl) (sa_cons (x_ix c (xv 0) se_int) (sa_cons (x_ix c (xv 0) se_int) sa_nil)) (by rfl)) (se_one (se_call (d_are_gaps T B) c.xr.mono (by rfl) (sa_cons (x_ix c (xv 0) se_int) (sa_cons (x_ix c (xv 0) se_int) sa_nil)) (by rfl)))))))
def m_need_network : MS := sIf (mNot (asT (mF F_is_network_in [mVar 0]))) (sRaise "BadNetwork" fs_BadNetwork [mVar 0]) (sNil)
def F_need_network : FL := fun ds st0 => (fun _ r => r) st0 (bodyF m_need_network 1 ds st0)
theorem d_need_network (T : Txt K mg) (B : TabAll K mg base) : DefS P w K mg base 8 "need_network" ["network"] F_need_network :=
  def_mk (fun _ r => r) wr_id T.t_need_network B (N := ["network"]) ⟨rfl, rfl, rfl, by decide +kernel, rfl, by decide +kernel, by decide +kernel⟩ (fun _ _ _ _ _ _ us hl => match us, hl with | [_], _ => rfl) fun _ _ _ _ _ _ _ (c : XC 7 _) (l : XL _) =>
  (ss_one (s_if (st_not (t_any (se_call (d_is_network_in T B) c.xr.mono (by rfl) (sa_cons (xv 0) sa_nil) (by rfl)))) (ss_one (s_raise (mk_BadNetwork T) { c with xr := c.xr.mono } (by rfl) (sa_cons (xv 0) sa_nil))) ss_nil))
def m_ends_in : MS := sRet (mLC finF (mIt (m2 ixD (mVar 0) (mC (.int 1)))) (gNm 1) (mYes) (m2 ixD (mVar 1) (mC (.int 1))) [1])
def F_ends_in : FL := fun ds st0 => (fun _ r => r) st0 (bodyF m_ends_in 2 ds st0)
theorem d_ends_in (T : Txt K mg) (B : TabAll K mg base) : DefS P w K mg base 3 "ends_in" ["network"] F_ends_in :=
  def_mk (fun _ r => r) wr_id T.t_ends_in B (N := ["network", "link"]) ⟨rfl, rfl, rfl, by decide +kernel, rfl, by decide +kernel, by decide +kernel⟩ (fun _ _ _ _ _ _ us hl => match us, hl with | [_], _ => rfl) fun _ _ _ _ _ _ _ (c : XC 2 _) (l : XL _) =>
  (ss_one (s_ret (se_lc finF_ok c (si_seq (x_ix c (xv 0) se_int)) (own := [("link", 1)]) (by rfl) (by decide) (fun _ _ _ _ _ c' => (xg 1 c')) (fun _ _ _ _ _ c' => sts_nil) (fun _ _ _ _ _ c' => (x_ix c' (xv 1) se_int)))))
def q_ours_in_2 : MS := sRet (mLC finF (mRng1 (m2 ixD (mVar 0) (mC (.int 0)))) (gNm 2) (asB (m2 notinD (mVar 2) (mVar 1))) (mVar 2) [2])
def m_ours_in : MS := sSeq (sSet 1 (mF F_ends_in [mVar 0])) (q_ours_in_2)
def F_ours_in : FL := fun ds st0 => (fun _ r => r) st0 (bodyF m_ours_in 3 ds st0)
theorem d_ours_in (T : Txt K mg) (B : TabAll K mg base) : DefS P w K mg base 4 "ours_in" ["network"] F_ours_in :=
  def_mk (fun _ r => r) wr_id T.t_ours_in B (N := ["network", "ends", "x"]) ⟨rfl, rfl, rfl, by decide +kernel, rfl, by decide +kernel, by decide +kernel⟩ (fun _ _ _ _ _ _ us hl => match us, hl with | [_], _ => rfl) fun _ _ _ _ _ _ _ (c : XC 3 _) (l : XL _) =>
  (ss_cons (xset 1 c (se_call (d_ends_in T B) c.xr.mono (by rfl) (sa_cons (xv 0) sa_nil) (by rfl)))
  (ss_one (s_ret (se_lc finF_ok c (si_range1 (x_ix c (xv 0) se_int) (by rfl) (T.f_range)) (own := [("x", 2)]) (by rfl) (by decide) (fun _ _ _ _ _ c' => (xg 2 c')) (fun _ _ _ _ _ c' => (sts_one (t_notin c' (xv 2) (xv 1)))) (fun _ _ _ _ _ c' => (xv 2))))))
def m_is_word : MS := sRet (mAndV (m1 (isiD ["tuple"]) (mVar 0)) (mAndV (m2 eqD (mF (f1 lenD) [mVar 0]) (mVar 2)) (mAndV (m1 (isiD ["str"]) (m2 ixD (mVar 0) (mC (.int 0)))) (m2 eqD (m2 ixD (mVar 0) (mC (.int 0))) (mVar 1)))))
def F_is_word : FL := fun ds st0 => (fun _ r => r) st0 (bodyF m_is_word 3 ds st0)
theorem d_is_word (T : Txt K mg) (B : TabAll K mg base) : DefS P w K mg base 3 "is_word" ["value", "word", "many"] F_is_word :=
  def_mk (fun _ r => r) wr_id T.t_is_word B (N := ["value", "word", "many"]) ⟨rfl, rfl, rfl, by decide +kernel, rfl, by decide +kernel, by decide +kernel⟩ (fun _ _ _ _ _ _ us hl => match us, hl with | [_, _, _], _ => rfl) fun _ _ _ _ _ _ _ (c : XC 2 _) (l : XL _) =>
  (ss_one (s_ret (se_and (se_isi (xv 0) (by decide) Boot_tuple (by rfl) (T.f_isinstance) (by rfl) (T.f_tuple)) (se_and (x_eq c (x_len (T.f_len) (xv 0)) (xv 2)) (se_and (se_isi (x_ix c (xv 0) se_int) (by decide) Boot_str (by rfl) (T.f_isinstance) (by rfl) (T.f_str)) (se_one (x_eq c (x_ix c (xv 0) se_int) (xv 1))))))))
def b_bases_in_2 : MS := sAsg (mTup [mVar 2, mVar 4, mVar 5]) (gSubD (mVar 1) (mVar 3))
def q_bases_in_4 : MS := sRet (mVar 1)
def q_bases_in_2 : MS := sSeq (sFor (mIt (m2 ixD (mVar 0) (mC (.int 1)))) (gTp 4 (gsCons (gNm 2) (gsCons (gNm 3) (gsCons (gNm 4) (gsCons (gNm 5) (gsNil)))))) b_bases_in_2) (q_bases_in_4)
def m_bases_in : MS := sSeq (sSet 1 (mLC finN (mRng1 (m2 ixD (mVar 0) (mC (.int 0)))) (gNm 6) (mYes) (mTup [mVar 6, mC (.int 0), mC (.int 0)]) [6])) (q_bases_in_2)
def F_bases_in : FL := fun ds st0 => (dropF) st0 (bodyF m_bases_in 7 ds st0)
theorem d_bases_in (T : Txt K mg) (B : TabAll K mg base) : DefS P w K mg base 3 "bases_in" ["network"] F_bases_in :=
  def_mk (dropF) wr_frz T.t_bases_in B (N := ["network", "found", "a", "c", "least", "greatest", "x"]) ⟨rfl, rfl, rfl, by decide +kernel, rfl, by decide +kernel, by decide +kernel⟩ (fun _ _ _ _ _ _ us hl => match us, hl with | [_], _ => rfl) fun _ _ _ _ _ _ _ (c : XC 2 _) (l : XL _) =>
  (ss_cons (s_setLcX 1 finN_ok c (si_range1 (x_ix c (xv 0) se_int) (by rfl) (T.f_range)) (own := [("x", 6)]) (by rfl) (by decide) (fun _ _ _ _ _ c' => (xg 6 c')) (fun _ _ _ _ _ c' => sts_nil) (fun _ _ _ _ _ c' => (se_tup (sa_cons (xv 6) (sa_cons se_int (sa_cons se_int sa_nil))) (by decide))))
  (ss_cons (s_for c (si_seq (x_ix c (xv 0) se_int)) (sg_tup c.calm (sgs_cons (xg 2 c) (sgs_cons (xg 3 c) (sgs_cons (xg 4 c) (sgs_cons (xg 5 c) sgs_nil))))) (ss_one (s_asg (se_tup (sa_cons (xv 2) (sa_cons (xv 4) (sa_cons (xv 5) sa_nil))) (by decide)) (sg_sub c.xr (xv 1) (xv 3)))))
  (ss_one (s_ret (xv 1)))))
def q_tight_in_4 : MS := sDrop (mBM "list" appendD (mVar 2) [mTup [mTup [mC (.str "told"), mVar 3], mTup [mVar 7, mVar 10, m2 subD (m2 addD (mVar 6) (mVar 8)) (mVar 12)]]])
def b_tight_in_2 : MS := sSeq (sAsg (mTup [m2 ixD (mVar 1) (mVar 4), m2 ixD (mVar 1) (mVar 5)]) (gTp 2 (gsCons (gTp 3 (gsCons (gNm 7) (gsCons (gNm 8) (gsCons (gNm 9) (gsNil))))) (gsCons (gTp 3 (gsCons (gNm 10) (gsCons (gNm 11) (gsCons (gNm 12) (gsNil))))) (gsNil))))) (q_tight_in_4)
def q_tight_in_6 : MS := sRet (mVar 2)
def q_tight_in_5 : MS := sSeq (sDrop (mBM "list" extendD (mVar 2) [mLC finF (mRng2 (mC (.int 1)) (m2 ixD (mVar 0) (mC (.int 0)))) (gNm 5) (mYes) (mTup [mTup [mC (.str "begin"), mVar 5], mTup [m2 ixD (m2 ixD (mVar 1) (mVar 5)) (mC (.int 0)), mC (.int 0), m2 ixD (m2 ixD (mVar 1) (mVar 5)) (mC (.int 1))]]) [5]])) (q_tight_in_6)
def q_tight_in_2 : MS := sSeq (sFor (mEnum (m2 ixD (mVar 0) (mC (.int 2)))) (gTp 2 (gsCons (gNm 3) (gsCons (gTp 3 (gsCons (gNm 4) (gsCons (gNm 5) (gsCons (gNm 6) (gsNil))))) (gsNil)))) b_tight_in_2) (q_tight_in_5)
def m_tight_in : MS := sSeq (sAsg (mTup [mF F_bases_in [mVar 0], mLst mkN []]) (gTp 2 (gsCons (gNm 1) (gsCons (gNm 2) (gsNil))))) (q_tight_in_2)
def F_tight_in : FL := fun ds st0 => (dropF) st0 (bodyF m_tight_in 13 ds st0)
theorem d_tight_in (T : Txt K mg) (B : TabAll K mg base) : DefS P w K mg base 4 "tight_in" ["network"] F_tight_in :=
  def_mk (dropF) wr_frz T.t_tight_in B (N := ["network", "bases", "found", "g", "x", "y", "d", "one", "least", "far", "two", "near", "greatest"]) ⟨rfl, rfl, rfl, by decide +kernel, rfl, by decide +kernel, by decide +kernel⟩ (fun _ _ _ _ _ _ us hl => match us, hl with | [_], _ => rfl) fun _ _ _ _ _ _ _ (c : XC 3 _) (l : XL _) =>
  (ss_cons (s_asg (se_tup (sa_cons (se_call (d_bases_in T B) c.xr.mono (by rfl) (sa_cons (xv 0) sa_nil) (by rfl)) (sa_cons (se_lst mkN_ok sa_nil (by decide)) sa_nil)) (by decide)) (sg_tup c.calm (sgs_cons (xg 1 c) (sgs_cons (xg 2 c) sgs_nil))))
  (ss_cons (s_for c (si_enum (x_ix c (xv 0) se_int) (by rfl) (T.f_enumerate)) (sg_tup c.calm (sgs_cons (xg 3 c) (sgs_cons (sg_tup c.calm (sgs_cons (xg 4 c) (sgs_cons (xg 5 c) (sgs_cons (xg 6 c) sgs_nil)))) sgs_nil))) (ss_cons (s_asg (se_tup (sa_cons (x_ix c (xv 1) (xv 4)) (sa_cons (x_ix c (xv 1) (xv 5)) sa_nil)) (by decide)) (sg_tup c.calm (sgs_cons (sg_tup c.calm (sgs_cons (xg 7 c) (sgs_cons (xg 8 c) (sgs_cons (xg 9 c) sgs_nil)))) (sgs_cons (sg_tup c.calm (sgs_cons (xg 10 c) (sgs_cons (xg 11 c) (sgs_cons (xg 12 c) sgs_nil)))) sgs_nil))))
  (ss_one (s_expr (x_append (xv 2) (se_tup (sa_cons (se_tup (sa_cons se_str (sa_cons (xv 3) sa_nil)) (by decide)) (sa_cons (se_tup (sa_cons (xv 7) (sa_cons (xv 10) (sa_cons (x_sub (x_add (xv 6) (xv 8)) (xv 12)) sa_nil))) (by decide)) sa_nil)) (by decide)))))))
  (ss_cons (s_expr (x_extend (xv 2) (se_lc finF_ok c (si_range2 se_int (x_ix c (xv 0) se_int) (by rfl) (T.f_range)) (own := [("y", 5)]) (by rfl) (by decide) (fun _ _ _ _ _ c' => (xg 5 c')) (fun _ _ _ _ _ c' => sts_nil) (fun _ _ _ _ _ c' => (se_tup (sa_cons (se_tup (sa_cons se_str (sa_cons (xv 5) sa_nil)) (by decide)) (sa_cons (se_tup (sa_cons (x_ix c' (x_ix c' (xv 1) (xv 5)) se_int) (sa_cons se_int (sa_cons (x_ix c' (x_ix c' (xv 1) (xv 5)) se_int) sa_nil))) (by decide)) sa_nil)) (by decide))))))
  (ss_one (s_ret (xv 2))))))
def q_ring_from_7 : MS := sIf (asB (m2 gtD (mF (f1 lenD) [mVar 2]) (mF (f1 lenD) [mVar 0]))) (sRet (mC .non)) (sNil)
def q_ring_from_5 : MS := sSeq (sIf (asB (m2 eqD (mVar 3) (mVar 1))) (sRet (mF (f1 tupleD) [mVar 2])) (sNil)) (q_ring_from_7)
def q_ring_from_4 : MS := sSeq (sDrop (mBM "list" appendD (mVar 2) [mVar 4])) (q_ring_from_5)
def b_ring_from_2 : MS := sSeq (sAsg (m2 ixD (mVar 0) (mVar 3)) (gTp 2 (gsCons (gNm 4) (gsCons (gNm 3) (gsNil))))) (q_ring_from_4)
def q_ring_from_9 : MS := sRet (mC .non)
def q_ring_from_2 : MS := sSeq (sWhile 20 (asB (m2 inD (mVar 3) (mVar 0))) b_ring_from_2) (q_ring_from_9)
def m_ring_from : MS := sSeq (sPar 2 3 (mLst mkN []) (mVar 1)) (q_ring_from_2)
def F_ring_from : FL := fun ds st0 => (dropR) st0 (bodyF m_ring_from 5 ds st0)
theorem d_ring_from (T : Txt K mg) (B : TabAll K mg base) : DefS P w K mg base 3 "ring_from" ["ahead", "x"] F_ring_from :=
  def_mk (dropR) wr_drop T.t_ring_from B (N := ["ahead", "x", "found", "at", "name"]) ⟨rfl, rfl, rfl, by decide +kernel, rfl, by decide +kernel, by decide +kernel⟩ (fun _ _ _ _ _ _ us hl => match us, hl with | [_, _], _ => rfl) fun _ _ _ _ _ _ _ (c : XC 2 _) (l : XL _) =>
  (ss_cons (xpar 2 3 c (se_lst mkN_ok sa_nil (by decide)) (xv 1))
  (ss_cons (s_while 20 c (t_in c (xv 3) (xv 0)) (ss_cons (s_asg (x_ix c (xv 0) (xv 3)) (sg_tup c.calm (sgs_cons (xg 4 c) (sgs_cons (xg 3 c) sgs_nil))))
  (ss_cons (s_expr (x_append (xv 2) (xv 4)))
  (ss_cons (s_if (t_eq c (xv 3) (xv 1)) (ss_one (s_ret (x_tuple (T.f_tuple) (xv 2)))) ss_nil)
  (ss_one (s_if (t_gt (x_len (T.f_len) (xv 2)) (x_len (T.f_len) (xv 0))) (ss_one (s_ret se_non)) ss_nil))))))
  (ss_one (s_ret se_non))))
def q_soonest_in_11 : MS := sIf (asB (m2 isnotD (mVar 9) (mC .non))) (sRet (mTup [mC (.str "ring"), mVar 9])) (sNil)
def q_soonest_in_10 : MS := sSeq (sSet 9 (mF F_ring_from [mVar 3, mVar 6])) (q_soonest_in_11)
def q_soonest_in_8 : MS := sIf (asB (m2 ltD (m2 ixD (mVar 2) (mVar 6)) (m2 subD (m2 ixD (mVar 2) (mVar 7)) (mVar 8)))) (sSeq (sAsg (mTup [m2 subD (m2 ixD (mVar 2) (mVar 7)) (mVar 8), mTup [mVar 5, mVar 7], mC (.bl true)]) (gTp 3 (gsCons (gSubD (mVar 2) (mVar 6)) (gsCons (gSubD (mVar 3) (mVar 6)) (gsCons (gNm 4) (gsNil)))))) (q_soonest_in_10)) (sNil)
def b_soonest_in_5 : MS := sSeq (sIf (mAnd (asB (m2 eqD (mVar 6) (mVar 7))) (asB (m2 ltD (mVar 8) (mC (.int 0))))) (sRet (mTup [mC (.str "ring"), mTup [mVar 5]])) (sNil)) (q_soonest_in_8)
def q_soonest_in_5 : MS := sFor (mIt (mVar 1)) (gTp 2 (gsCons (gNm 5) (gsCons (gTp 3 (gsCons (gNm 6) (gsCons (gNm 7) (gsCons (gNm 8) (gsNil))))) (gsNil)))) b_soonest_in_5
def b_soonest_in_3 : MS := sSeq (sSet 4 (mC (.bl false))) (q_soonest_in_5)
def q_soonest_in_13 : MS := sRet (mTup [mC (.str "times"), mF (f1 tupleD) [mLC finF (mIt (mVar 0)) (gNm 6) (mYes) (m2 ixD (mVar 2) (mVar 6)) [6]]])
def q_soonest_in_3 : MS := sSeq (sWhile 1000000 (asT (mVar 4)) b_soonest_in_3) (q_soonest_in_13)
def q_soonest_in_2 : MS := sSeq (sDropT (mBM "dict" updateD (mVar 3) [mDC (mIt (mVar 1)) (gTp 2 (gsCons (gNm 5) (gsCons (gNm 10) (gsNil)))) (mAnd (asB (m2 eqD (m2 ixD (mVar 5) (mC (.int 0))) (mC (.str "begin")))) (mAnd (asB (m2 neD (m2 ixD (mVar 10) (mC (.int 0))) (mC (.int 0)))) (asB (m2 eqD (m2 ixD (mVar 10) (mC (.int 2))) (mC (.int 0)))))) (m2 ixD (mVar 10) (mC (.int 0))) (mTup [mVar 5, mC (.int 0)]) [5, 10]])) (q_soonest_in_3)
def m_soonest_in : MS := sSeq (sAsg (mTup [mDC (mIt (mVar 0)) (gNm 6) (mYes) (mVar 6) (mC (.int 0)) [6], mNewK, mC (.bl true)]) (gTp 3 (gsCons (gNm 2) (gsCons (gNm 3) (gsCons (gNm 4) (gsNil)))))) (q_soonest_in_2)
def F_soonest_in : FL := fun ds st0 => (dropR) st0 (bodyF m_soonest_in 11 ds st0)
theorem d_soonest_in (T : Txt K mg) (B : TabAll K mg base) : DefS P w K mg base 4 "soonest_in" ["moments", "rows"] F_soonest_in :=
  def_mk (dropR) wr_drop T.t_soonest_in B (N := ["moments", "rows", "times", "ahead", "is_open", "name", "x", "y", "d", "ring", "gap"]) ⟨rfl, rfl, rfl, by decide +kernel, rfl, by decide +kernel, by decide +kernel⟩ (fun _ _ _ _ _ _ us hl => match us, hl with | [_, _], _ => rfl) fun _ _ _ _ _ _ _ (c : XC 3 _) (l : XL _) =>
  (ss_cons (s_asg (se_tup (sa_cons (se_dc c (si_seq (xv 0)) (own := [("x", 6)]) (by rfl) (by decide) (fun _ _ _ _ _ c' => (xg 6 c')) (fun _ _ _ _ _ c' => sts_nil) (fun _ _ _ _ _ c' => (xv 6)) (fun _ _ _ _ _ c' => se_int)) (sa_cons se_newK (sa_cons se_bl sa_nil))) (by decide)) (sg_tup c.calm (sgs_cons (xg 2 c) (sgs_cons (xg 3 c) (sgs_cons (xg 4 c) sgs_nil)))))
  (ss_cons (s_exprT (x_update (xv 3) (se_dc c (si_seq (xv 1)) (own := [("name", 5), ("gap", 10)]) (by rfl) (by decide) (fun _ _ _ _ _ c' => (sg_tup c'.calm (sgs_cons (xg 5 c') (sgs_cons (xg 10 c') sgs_nil)))) (fun _ _ _ _ _ c' => (sts_one (sw_and (t_eq c' (x_ix c' (xv 5) se_int) se_str) (sw_and (t_ne c' (x_ix c' (xv 10) se_int) se_int) (sw_and1 (t_eq c' (x_ix c' (xv 10) se_int) se_int)))).st)) (fun _ _ _ _ _ c' => (x_ix c' (xv 10) se_int)) (fun _ _ _ _ _ c' => (se_tup (sa_cons (xv 5) (sa_cons se_int sa_nil)) (by decide))))))
  (ss_cons (s_while 1000000 c (t_any (xv 4)) (ss_cons (xset 4 c se_bl)
  (ss_one (s_for c (si_seq (xv 1)) (sg_tup c.calm (sgs_cons (xg 5 c) (sgs_cons (sg_tup c.calm (sgs_cons (xg 6 c) (sgs_cons (xg 7 c) (sgs_cons (xg 8 c) sgs_nil)))) sgs_nil))) (ss_cons (s_if (sw_and (t_eq c (xv 6) (xv 7)) (sw_and1 (t_lt c (xv 8) se_int))).st (ss_one (s_ret (se_tup (sa_cons se_str (sa_cons (se_tup (sa_cons (xv 5) sa_nil) (by decide)) sa_nil)) (by decide)))) ss_nil)
  (ss_one (s_if (t_lt c (x_ix c (xv 2) (xv 6)) (x_sub (x_ix c (xv 2) (xv 7)) (xv 8))) (ss_cons (s_asg (se_tup (sa_cons (x_sub (x_ix c (xv 2) (xv 7)) (xv 8)) (sa_cons (se_tup (sa_cons (xv 5) (sa_cons (xv 7) sa_nil)) (by decide)) (sa_cons se_bl sa_nil))) (by decide)) (sg_tup c.calm (sgs_cons (sg_sub c.xr (xv 2) (xv 6)) (sgs_cons (sg_sub c.xr (xv 3) (xv 6)) (sgs_cons (xg 4 c) sgs_nil)))))
  (ss_cons (xset 9 c (se_call (d_ring_from T B) c.xr.mono (by rfl) (sa_cons (xv 3) (sa_cons (xv 6) sa_nil)) (by rfl)))
  (ss_one (s_if (t_isnot (xv 9) se_non) (ss_one (s_ret (se_tup (sa_cons se_str (sa_cons (xv 9) sa_nil)) (by decide)))) ss_nil)))) ss_nil)))))))
  (ss_one (s_ret (se_tup (sa_cons se_str (sa_cons (x_tuple (T.f_tuple) (se_lc finF_ok c (si_seq (xv 0)) (own := [("x", 6)]) (by rfl) (by decide) (fun _ _ _ _ _ c' => (xg 6 c')) (fun _ _ _ _ _ c' => sts_nil) (fun _ _ _ _ _ c' => (x_ix c' (xv 2) (xv 6))))) sa_nil)) (by decide)))))))
def m_fixed_in : MS := sRet (mF F_soonest_in [mF F_ours_in [mVar 0], mF F_tight_in [mVar 0]])
def F_fixed_in : FL := fun ds st0 => (fun _ r => r) st0 (bodyF m_fixed_in 1 ds st0)
theorem d_fixed_in (T : Txt K mg) (B : TabAll K mg base) : DefS P w K mg base 5 "fixed_in" ["network"] F_fixed_in :=
  def_mk (fun _ r => r) wr_id T.t_fixed_in B (N := ["network"]) ⟨rfl, rfl, rfl, by decide +kernel, rfl, by decide +kernel, by decide +kernel⟩ (fun _ _ _ _ _ _ us hl => match us, hl with | [_], _ => rfl) fun _ _ _ _ _ _ _ (c : XC 4 _) (l : XL _) =>
  (ss_one (s_ret (se_call (d_soonest_in T B) c.xr.mono (by rfl) (sa_cons (se_call (d_ours_in T B) c.xr.mono (by rfl) (sa_cons (xv 0) sa_nil) (by rfl)) (sa_cons (se_call (d_tight_in T B) c.xr.mono (by rfl) (sa_cons (xv 0) sa_nil) (by rfl)) sa_nil)) (by rfl))))
def q_fixed_answer_2 : MS := sRet (mF F_fixed_in [mVar 0])
def m_fixed_answer : MS := sSeq (sDrop (mF F_need_network [mVar 0])) (q_fixed_answer_2)
def F_fixed_answer : FL := fun ds st0 => (fun _ r => r) st0 (bodyF m_fixed_answer 1 ds st0)
theorem d_fixed_answer (T : Txt K mg) (B : TabAll K mg base) : DefS P w K mg base 9 "fixed_answer" ["network"] F_fixed_answer :=
  def_mk (fun _ r => r) wr_id T.t_fixed_answer B (N := ["network"]) ⟨rfl, rfl, rfl, by decide +kernel, rfl, by decide +kernel, by decide +kernel⟩ (fun _ _ _ _ _ _ us hl => match us, hl with | [_], _ => rfl) fun _ _ _ _ _ _ _ (c : XC 8 _) (l : XL _) =>
  (ss_cons (s_expr (se_call (d_need_network T B) c.xr.mono (by rfl) (sa_cons (xv 0) sa_nil) (by rfl)))
  (ss_one (s_ret (se_call (d_fixed_in T B) c.xr.mono (by rfl) (sa_cons (xv 0) sa_nil) (by rfl)))))
def q_is_name_of_3 : MS := sRet (m2 inD (mVar 1) (mVar 0))
def m_is_name_of : MS := sSeq (sIf (mOr (mNot (asT (m1 (isiD ["tuple"]) (mVar 1)))) (mOr (asB (m2 neD (mF (f1 lenD) [mVar 1]) (mC (.int 2)))) (mOr (mNot (asT (m1 (isiD ["str"]) (m2 ixD (mVar 1) (mC (.int 0)))))) (mNot (asT (mF F_is_count [m2 ixD (mVar 1) (mC (.int 1))])))))) (sRet (mC (.bl false))) (sNil)) (q_is_name_of_3)
def F_is_name_of : FL := fun ds st0 => (fun _ r => r) st0 (bodyF m_is_name_of 2 ds st0)
theorem d_is_name_of (T : Txt K mg) (B : TabAll K mg base) : DefS P w K mg base 5 "is_name_of" ["known", "name"] F_is_name_of :=
  def_mk (fun _ r => r) wr_id T.t_is_name_of B (N := ["known", "name"]) ⟨rfl, rfl, rfl, by decide +kernel, rfl, by decide +kernel, by decide +kernel⟩ (fun _ _ _ _ _ _ us hl => match us, hl with | [_, _], _ => rfl) fun _ _ _ _ _ _ _ (c : XC 4 _) (l : XL _) =>
  (ss_cons (s_if (sw_or (st_not (t_any (se_isi (xv 1) (by decide) Boot_tuple (by rfl) (T.f_isinstance) (by rfl) (T.f_tuple)))) (sw_or (t_ne c (x_len (T.f_len) (xv 1)) se_int) (sw_or (st_not (t_any (se_isi (x_ix c (xv 1) se_int) (by decide) Boot_str (by rfl) (T.f_isinstance) (by rfl) (T.f_str)))) (sw_or1 (st_not (t_any (se_call (d_is_count T B) c.xr.mono (by rfl) (sa_cons (x_ix c (xv 1) se_int) sa_nil) (by rfl)))))))).st (ss_one (s_ret se_bl)) ss_nil)
  (ss_one (s_ret (x_in c (xv 1) (xv 0)))))
def q_is_ring_in_7 : MS := sRet (m2 ltD (mF (f1 sumD) [mLC finF (mIt (mVar 3)) (gNm 5) (mYes) (m2 ixD (mVar 5) (mC (.int 2))) [5]]) (mC (.int 0)))
def q_is_ring_in_5 : MS := sSeq (sIf (mNot (asT (mF (f1 allD) [mLC finF (mZip [mVar 3, m2 addD (mSlice mkF (mVar 3) (mPart (mC (.int 1))) mNoPart) (mSlice mkF (mVar 3) mNoPart (mPart (mC (.int 1))))]) (gTp 2 (gsCons (gNm 6) (gsCons (gNm 7) (gsNil)))) (mYes) (m2 eqD (m2 ixD (mVar 6) (mC (.int 1))) (m2 ixD (mVar 7) (mC (.int 0)))) [6, 7]]))) (sRet (mC (.bl false))) (sNil)) (q_is_ring_in_7)
def q_is_ring_in_4 : MS := sSeq (sSet 3 (mLC finF (mIt (mVar 1)) (gNm 4) (mYes) (m2 ixD (mVar 2) (mVar 4)) [4])) (q_is_ring_in_5)
def q_is_ring_in_2 : MS := sSeq (sIf (mOr (mNot (asT (m1 (isiD ["tuple"]) (mVar 1)))) (mOr (asB (m2 eqD (mVar 1) (mTup []))) (mNot (asT (mF (f1 allD) [mLC finF (mIt (mVar 1)) (gNm 4) (mYes) (mF F_is_name_of [mVar 2, mVar 4]) [4]]))))) (sRet (mC (.bl false))) (sNil)) (q_is_ring_in_4)
def m_is_ring_in : MS := sSeq (sSet 2 (mDCT (mIt (mVar 0)) (gTp 2 (gsCons (gNm 4) (gsCons (gNm 5) (gsNil)))) (mYes) (mVar 4) (mVar 5) [4, 5])) (q_is_ring_in_2)
def F_is_ring_in : FL := fun ds st0 => (dropR) st0 (bodyF m_is_ring_in 8 ds st0)
theorem d_is_ring_in (T : Txt K mg) (B : TabAll K mg base) : DefS P w K mg base 6 "is_ring_in" ["rows", "value"] F_is_ring_in :=
  def_mk (dropR) wr_drop T.t_is_ring_in B (N := ["rows", "value", "known", "gaps", "name", "gap", "one", "two"]) ⟨rfl, rfl, rfl, by decide +kernel, rfl, by decide +kernel, by decide +kernel⟩ (fun _ _ _ _ _ _ us hl => match us, hl with | [_, _], _ => rfl) fun _ _ _ _ _ _ _ (c : XC 5 _) (l : XL _) =>
  (ss_cons (xset 2 c (se_dcT c (si_seq (xv 0)) (own := [("name", 4), ("gap", 5)]) (by rfl) (by decide) (fun _ _ _ _ _ c' => (sg_tup c'.calm (sgs_cons (xg 4 c') (sgs_cons (xg 5 c') sgs_nil)))) (fun _ _ _ _ _ c' => sts_nil) (fun _ _ _ _ _ c' => (xv 4)) (fun _ _ _ _ _ c' => (xv 5))))
  (ss_cons (s_if (sw_or (st_not (t_any (se_isi (xv 1) (by decide) Boot_tuple (by rfl) (T.f_isinstance) (by rfl) (T.f_tuple)))) (sw_or (t_eq c (xv 1) (se_tup sa_nil (by decide))) (sw_or1 (st_not (t_any (x_all c (T.f_all) (se_lc finF_ok c (si_seq (xv 1)) (own := [("name", 4)]) (by rfl) (by decide) (fun _ _ _ _ _ c' => (xg 4 c')) (fun _ _ _ _ _ c' => sts_nil) (fun _ _ _ _ _ c' => (se_call (d_is_name_of T B) c'.xr.mono (by rfl) (sa_cons (xv 2) (sa_cons (xv 4) sa_nil)) (by rfl)))))))))).st (ss_one (s_ret se_bl)) ss_nil)
  (ss_cons (s_setLcX 3 finF_ok c (si_seq (xv 1)) (own := [("name", 4)]) (by rfl) (by decide) (fun _ _ _ _ _ c' => (xg 4 c')) (fun _ _ _ _ _ c' => sts_nil) (fun _ _ _ _ _ c' => (x_ix c' (xv 2) (xv 4))))
  (ss_cons (s_if (st_not (t_any (x_all c (T.f_all) (se_lc finF_ok c (si_zip (sa_cons (xv 3) (sa_cons (x_add (se_slice mkF_ok (xv 3) (so_some se_int) so_none) (se_slice mkF_ok (xv 3) so_none (so_some se_int))) sa_nil)) (by rfl) (T.f_zip)) (own := [("one", 6), ("two", 7)]) (by rfl) (by decide) (fun _ _ _ _ _ c' => (sg_tup c'.calm (sgs_cons (xg 6 c') (sgs_cons (xg 7 c') sgs_nil)))) (fun _ _ _ _ _ c' => sts_nil) (fun _ _ _ _ _ c' => (x_eq c' (x_ix c' (xv 6) se_int) (x_ix c' (xv 7) se_int))))))) (ss_one (s_ret se_bl)) ss_nil)
  (ss_one (s_ret (x_lt c (x_sum c (T.f_sum) (sa_cons (se_lc finF_ok c (si_seq (xv 3)) (own := [("gap", 5)]) (by rfl) (by decide) (fun _ _ _ _ _ c' => (xg 5 c')) (fun _ _ _ _ _ c' => sts_nil) (fun _ _ _ _ _ c' => (x_ix c' (xv 5) se_int))) sa_nil)) se_int)))))))
def q_are_times_in_3 : MS := sRet (mAndV (mF (f1 allD) [mLC finF (mIt (mVar 1)) (gNm 2) (mYes) (mF F_is_count [mVar 2]) [2]]) (m2 eqD (m2 ixD (mVar 1) (mC (.int 0))) (mC (.int 0))))
def m_are_times_in : MS := sSeq (sIf (mOr (mNot (asT (m1 (isiD ["tuple"]) (mVar 1)))) (asB (m2 neD (mF (f1 lenD) [mVar 1]) (mF (f1 lenD) [mF F_ours_in [mVar 0]])))) (sRet (mC (.bl false))) (sNil)) (q_are_times_in_3)
def F_are_times_in : FL := fun ds st0 => (fun _ r => r) st0 (bodyF m_are_times_in 3 ds st0)
theorem d_are_times_in (T : Txt K mg) (B : TabAll K mg base) : DefS P w K mg base 5 "are_times_in" ["network", "value"] F_are_times_in :=
  def_mk (fun _ r => r) wr_id T.t_are_times_in B (N := ["network", "value", "item"]) ⟨rfl, rfl, rfl, by decide +kernel, rfl, by decide +kernel, by decide +kernel⟩ (fun _ _ _ _ _ _ us hl => match us, hl with | [_, _], _ => rfl) fun _ _ _ _ _ _ _ (c : XC 4 _) (l : XL _) =>
  (ss_cons (s_if (sw_or (st_not (t_any (se_isi (xv 1) (by decide) Boot_tuple (by rfl) (T.f_isinstance) (by rfl) (T.f_tuple)))) (sw_or1 (t_ne c (x_len (T.f_len) (xv 1)) (x_len (T.f_len) (se_call (d_ours_in T B) c.xr.mono (by rfl) (sa_cons (xv 0) sa_nil) (by rfl)))))).st (ss_one (s_ret se_bl)) ss_nil)
  (ss_one (s_ret (se_and (x_all c (T.f_all) (se_lc finF_ok c (si_seq (xv 1)) (own := [("item", 2)]) (by rfl) (by decide) (fun _ _ _ _ _ c' => (xg 2 c')) (fun _ _ _ _ _ c' => sts_nil) (fun _ _ _ _ _ c' => (se_call (d_is_count T B) c'.xr.mono (by rfl) (sa_cons (xv 2) sa_nil) (by rfl))))) (se_one (x_eq c (x_ix c (xv 1) se_int) se_int))))))
def q_is_fixed_in_6 : MS := sRet (mF (f1 allD) [mLC finF (mIt (mF F_tight_in [mVar 0])) (gTp 2 (gsCons (gNm 5) (gsCons (gTp 3 (gsCons (gNm 3) (gsCons (gNm 6) (gsCons (gNm 7) (gsNil))))) (gsNil)))) (mYes) (m2 leD (m2 subD (m2 ixD (mVar 2) (mVar 6)) (m2 ixD (mVar 2) (mVar 3))) (mVar 7)) [5, 3, 6, 7]])
def q_is_fixed_in_5 : MS := sSeq (sSet 2 (mDC (mZip [mF F_ours_in [mVar 0], m2 ixD (mVar 1) (mC (.int 1))]) (gTp 2 (gsCons (gNm 3) (gsCons (gNm 4) (gsNil)))) (mYes) (mVar 3) (mVar 4) [3, 4])) (q_is_fixed_in_6)
def q_is_fixed_in_3 : MS := sSeq (sIf (mOr (mNot (asT (mF F_is_word [mVar 1, mC (.str "times"), mC (.int 2)]))) (mNot (asT (mF F_are_times_in [mVar 0, m2 ixD (mVar 1) (mC (.int 1))])))) (sRet (mC (.bl false))) (sNil)) (q_is_fixed_in_5)
def m_is_fixed_in : MS := sSeq (sIf (asT (mF F_is_word [mVar 1, mC (.str "ring"), mC (.int 2)])) (sRet (mF F_is_ring_in [mF F_tight_in [mVar 0], m2 ixD (mVar 1) (mC (.int 1))])) (sNil)) (q_is_fixed_in_3)
def F_is_fixed_in : FL := fun ds st0 => (dropR) st0 (bodyF m_is_fixed_in 8 ds st0)
theorem d_is_fixed_in (T : Txt K mg) (B : TabAll K mg base) : DefS P w K mg base 7 "is_fixed_in" ["network", "value"] F_is_fixed_in :=
  def_mk (dropR) wr_drop T.t_is_fixed_in B (N := ["network", "value", "times", "x", "time", "name", "y", "d"]) ⟨rfl, rfl, rfl, by decide +kernel, rfl, by decide +kernel, by decide +kernel⟩ (fun _ _ _ _ _ _ us hl => match us, hl with | [_, _], _ => rfl) fun _ _ _ _ _ _ _ (c : XC 6 _) (l : XL _) =>
  (ss_cons (s_if (t_any (se_call (d_is_word T B) c.xr.mono (by rfl) (sa_cons (xv 1) (sa_cons se_str (sa_cons se_int sa_nil))) (by rfl))) (ss_one (s_ret (se_call (d_is_ring_in T B) c.xr.mono (by rfl) (sa_cons (se_call (d_tight_in T B) c.xr.mono (by rfl) (sa_cons (xv 0) sa_nil) (by rfl)) (sa_cons (x_ix c (xv 1) se_int) sa_nil)) (by rfl)))) ss_nil)
  (ss_cons (s_if (sw_or (st_not (t_any (se_call (d_is_word T B) c.xr.mono (by rfl) (sa_cons (xv 1) (sa_cons se_str (sa_cons se_int sa_nil))) (by rfl)))) (sw_or1 (st_not (t_any (se_call (d_are_times_in T B) c.xr.mono (by rfl) (sa_cons (xv 0) (sa_cons (x_ix c (xv 1) se_int) sa_nil)) (by rfl)))))).st (ss_one (s_ret se_bl)) ss_nil)
  (ss_cons (xset 2 c (se_dc c (si_zip (sa_cons (se_call (d_ours_in T B) c.xr.mono (by rfl) (sa_cons (xv 0) sa_nil) (by rfl)) (sa_cons (x_ix c (xv 1) se_int) sa_nil)) (by rfl) (T.f_zip)) (own := [("x", 3), ("time", 4)]) (by rfl) (by decide) (fun _ _ _ _ _ c' => (sg_tup c'.calm (sgs_cons (xg 3 c') (sgs_cons (xg 4 c') sgs_nil)))) (fun _ _ _ _ _ c' => sts_nil) (fun _ _ _ _ _ c' => (xv 3)) (fun _ _ _ _ _ c' => (xv 4))))
  (ss_one (s_ret (x_all c (T.f_all) (se_lc finF_ok c (si_seq (se_call (d_tight_in T B) c.xr.mono (by rfl) (sa_cons (xv 0) sa_nil) (by rfl))) (own := [("name", 5), ("x", 3), ("y", 6), ("d", 7)]) (by rfl) (by decide) (fun _ _ _ _ _ c' => (sg_tup c'.calm (sgs_cons (xg 5 c') (sgs_cons (sg_tup c'.calm (sgs_cons (xg 3 c') (sgs_cons (xg 6 c') (sgs_cons (xg 7 c') sgs_nil)))) sgs_nil)))) (fun _ _ _ _ _ c' => sts_nil) (fun _ _ _ _ _ c' => (x_le (x_sub (x_ix c' (xv 2) (xv 6)) (x_ix c' (xv 2) (xv 3))) (xv 7))))))))))
def q_is_fixed_answer_2 : MS := sRet (mF F_is_fixed_in [mVar 0, mVar 1])
def m_is_fixed_answer : MS := sSeq (sDrop (mF F_need_network [mVar 0])) (q_is_fixed_answer_2)
def F_is_fixed_answer : FL := fun ds st0 => (fun _ r => r) st0 (bodyF m_is_fixed_answer 2 ds st0)
theorem d_is_fixed_answer (T : Txt K mg) (B : TabAll K mg base) : DefS P w K mg base 9 "is_fixed_answer" ["network", "value"] F_is_fixed_answer :=
  def_mk (fun _ r => r) wr_id T.t_is_fixed_answer B (N := ["network", "value"]) ⟨rfl, rfl, rfl, by decide +kernel, rfl, by decide +kernel, by decide +kernel⟩ (fun _ _ _ _ _ _ us hl => match us, hl with | [_, _], _ => rfl) fun _ _ _ _ _ _ _ (c : XC 8 _) (l : XL _) =>
  (ss_cons (s_expr (se_call (d_need_network T B) c.xr.mono (by rfl) (sa_cons (xv 0) sa_nil) (by rfl)))
  (ss_one (s_ret (se_call (d_is_fixed_in T B) c.xr.mono (by rfl) (sa_cons (xv 0) (sa_cons (xv 1) sa_nil)) (by rfl)))))
def b__law_pen_2 : MS := sSet 1 (m2 modD (mF (f1 intD) [m2 addD (m2 (mulD mkF) (mVar 1) (mC (.int 233))) (mVar 2)]) (mC (.int 1000000289)))
def q__law_pen_4 : MS := sRet (mDisp [(mC (.str "cells"), mF (f1 (listD mkF)) [mVar 0]), (mC (.str "at"), mC (.int 0)), (mC (.str "digits"), mC (.int 0)), (mC (.str "count"), mC (.int 0)), (mC (.str "fold"), mVar 1)])
def q__law_pen_2 : MS := sSeq (sFor (mIt (mVar 0)) (gNm 2) b__law_pen_2) (q__law_pen_4)
def m__law_pen : MS := sSeq (sSet 1 (mC (.int 0))) (q__law_pen_2)
def F__law_pen : FL := fun ds st0 => (fun _ r => r) st0 (bodyF m__law_pen 3 ds st0)
theorem d__law_pen (T : Txt K mg) (B : TabAll K mg base) : DefS P w K mg base 3 "_law_pen" ["script"] F__law_pen :=
  def_mk (fun _ r => r) wr_id T.t__law_pen B (N := ["script", "total", "cell"]) ⟨rfl, rfl, rfl, by decide +kernel, rfl, by decide +kernel, by decide +kernel⟩ (fun _ _ _ _ _ _ us hl => match us, hl with | [_], _ => rfl) fun _ _ _ _ _ _ _ (c : XC 2 _) (l : XL _) =>
  (ss_cons (xset 1 c se_int)
  (ss_cons (s_for c (si_seq (xv 0)) (xg 2 c) (ss_one (xset 1 c (x_mod (x_int (T.f_int) (x_add (x_mul mkF_ok (xv 1) se_int) (xv 2))) se_int))))
  (ss_one (s_ret (se_disp (spps_cons se_str (x_list mkF_ok (T.f_list) (xv 0)) (spps_cons se_str se_int (spps_cons se_str se_int (spps_cons se_str se_int (spps_cons se_str (xv 1) spps_nil))))))))))
def q__law_draw_5 : MS := sIf (asB (m2 geD (mVar 2) (m2 powD (mC (.int 10)) (mC (.int 18))))) (sAsg (m2 subD (mVar 2) (m2 powD (mC (.int 10)) (mC (.int 18)))) (gSubD (mVar 0) (mC (.str "digits")))) (sAsg (m2 modD (mF (f1 intD) [m2 addD (m2 (mulD mkF) (m2 ixD (mVar 0) (mC (.str "fold"))) (mC (.int 70843))) (mVar 2)]) (mC (.int 2147483543))) (gSubD (mVar 0) (mC (.str "fold"))))
def q__law_draw_4 : MS := sSeq (sAsg (m2 addD (m2 ixD (mVar 0) (mC (.str "at"))) (mC (.int 1))) (gSubD (mVar 0) (mC (.str "at")))) (q__law_draw_5)
def q__law_draw_12 : MS := sRet (mVar 3)
def q__law_draw_11 : MS := sSeq (sAsg (m2 fdivD (m2 ixD (mVar 0) (mC (.str "digits"))) (mVar 1)) (gSubD (mVar 0) (mC (.str "digits")))) (q__law_draw_12)
def q__law_draw_14 : MS := sRet (m2 modD (m2 fdivD (mF (f1 intD) [m2 modD (m2 powD (mVar 4) (mC (.int 23))) (mC (.int 2305843009213693951))]) (mC (.int 128))) (mVar 1))
def q__law_draw_13 : MS := sSeq (sSet 4 (m2 addD (m2 addD (m2 ixD (mVar 0) (mC (.str "fold"))) (m2 (mulD mkF) (m2 ixD (mVar 0) (mC (.str "count"))) (mC (.int 9697)))) (mC (.int 151)))) (q__law_draw_14)
def q__law_draw_9 : MS := sSeq (sIf (asB (m2 gtD (m2 ixD (mVar 0) (mC (.str "digits"))) (mC (.int 0)))) (sSeq (sSet 3 (m2 modD (mF (f1 intD) [m2 ixD (mVar 0) (mC (.str "digits"))]) (mVar 1))) (q__law_draw_11)) (sNil)) (q__law_draw_13)
def q__law_draw_2 : MS := sSeq (sIf (mAnd (asB (m2 eqD (m2 ixD (mVar 0) (mC (.str "digits"))) (mC (.int 0)))) (asB (m2 ltD (m2 ixD (mVar 0) (mC (.str "at"))) (mF (f1 lenD) [m2 ixD (mVar 0) (mC (.str "cells"))])))) (sSeq (sSet 2 (m2 ixD (m2 ixD (mVar 0) (mC (.str "cells"))) (m2 ixD (mVar 0) (mC (.str "at"))))) (q__law_draw_4)) (sNil)) (q__law_draw_9)
def m__law_draw : MS := sSeq (sAsg (m2 addD (m2 ixD (mVar 0) (mC (.str "count"))) (mC (.int 1))) (gSubD (mVar 0) (mC (.str "count")))) (q__law_draw_2)
def F__law_draw : FL := fun ds st0 => (fun _ r => r) st0 (bodyF m__law_draw 5 ds st0)
theorem d__law_draw (T : Txt K mg) (B : TabAll K mg base) : DefS P w K mg base 3 "_law_draw" ["pen", "many"] F__law_draw :=
  def_mk (fun _ r => r) wr_id T.t__law_draw B (N := ["pen", "many", "cell", "digit", "blend"]) ⟨rfl, rfl, rfl, by decide +kernel, rfl, by decide +kernel, by decide +kernel⟩ (fun _ _ _ _ _ _ us hl => match us, hl with | [_, _], _ => rfl) fun _ _ _ _ _ _ _ (c : XC 2 _) (l : XL _) =>
  (ss_cons (s_asg (x_add (x_ix c (xv 0) se_str) se_int) (sg_sub c.xr (xv 0) se_str))
  (ss_cons (s_if (sw_and (t_eq c (x_ix c (xv 0) se_str) se_int) (sw_and1 (t_lt c (x_ix c (xv 0) se_str) (x_len (T.f_len) (x_ix c (xv 0) se_str))))).st (ss_cons (xset 2 c (x_ix c (x_ix c (xv 0) se_str) (x_ix c (xv 0) se_str)))
  (ss_cons (s_asg (x_add (x_ix c (xv 0) se_str) se_int) (sg_sub c.xr (xv 0) se_str))
  (ss_one (s_if (t_ge (xv 2) (x_pow se_int se_int)) (ss_one (s_asg (x_sub (xv 2) (x_pow se_int se_int)) (sg_sub c.xr (xv 0) se_str))) (ss_one (s_asg (x_mod (x_int (T.f_int) (x_add (x_mul mkF_ok (x_ix c (xv 0) se_str) se_int) (xv 2))) se_int) (sg_sub c.xr (xv 0) se_str))))))) ss_nil)
  (ss_cons (s_if (t_gt (x_ix c (xv 0) se_str) se_int) (ss_cons (xset 3 c (x_mod (x_int (T.f_int) (x_ix c (xv 0) se_str)) (xv 1)))
  (ss_cons (s_asg (x_fdiv (x_ix c (xv 0) se_str) (xv 1)) (sg_sub c.xr (xv 0) se_str))
  (ss_one (s_ret (xv 3))))) ss_nil)
  (ss_cons (xset 4 c (x_add (x_add (x_ix c (xv 0) se_str) (x_mul mkF_ok (x_ix c (xv 0) se_str) se_int)) se_int))
  (ss_one (s_ret (x_mod (x_fdiv (x_int (T.f_int) (x_mod (x_pow (xv 4) se_int) se_int)) se_int) (xv 1))))))))
def m__law_pick : MS := sRet (m2 ixD (mVar 1) (mF F__law_draw [mVar 0, mF (f1 lenD) [mVar 1]]))
def F__law_pick : FL := fun ds st0 => (fun _ r => r) st0 (bodyF m__law_pick 2 ds st0)
theorem d__law_pick (T : Txt K mg) (B : TabAll K mg base) : DefS P w K mg base 4 "_law_pick" ["pen", "some"] F__law_pick :=
  def_mk (fun _ r => r) wr_id T.t__law_pick B (N := ["pen", "some"]) ⟨rfl, rfl, rfl, by decide +kernel, rfl, by decide +kernel, by decide +kernel⟩ (fun _ _ _ _ _ _ us hl => match us, hl with | [_, _], _ => rfl) fun _ _ _ _ _ _ _ (c : XC 3 _) (l : XL _) =>
  (ss_one (s_ret (x_ix c (xv 1) (se_call (d__law_draw T B) c.xr.mono (by rfl) (sa_cons (xv 0) (sa_cons (x_len (T.f_len) (xv 1)) sa_nil)) (by rfl)))))
def b__law_shuffled_2 : MS := sDrop (mBM "list" appendD (mVar 3) [mBM "list" popAtD (mVar 2) [mF F__law_draw [mVar 0, mF (f1 lenD) [mVar 2]]]])
def q__law_shuffled_4 : MS := sRet (mVar 3)
def q__law_shuffled_2 : MS := sSeq (sFor (mRng1 (mF (f1 lenD) [mVar 1])) (gNm 4) b__law_shuffled_2) (q__law_shuffled_4)
def m__law_shuffled : MS := sSeq (sPar 2 3 (mF (f1 (listD mkN)) [mVar 1]) (mLst mkN [])) (q__law_shuffled_2)
def F__law_shuffled : FL := fun ds st0 => (dropF) st0 (bodyF m__law_shuffled 5 ds st0)
theorem d__law_shuffled (T : Txt K mg) (B : TabAll K mg base) : DefS P w K mg base 4 "_law_shuffled" ["pen", "items"] F__law_shuffled :=
  def_mk (dropF) wr_frz T.t__law_shuffled B (N := ["pen", "items", "left", "found", "lap"]) ⟨rfl, rfl, rfl, by decide +kernel, rfl, by decide +kernel, by decide +kernel⟩ (fun _ _ _ _ _ _ us hl => match us, hl with | [_, _], _ => rfl) fun _ _ _ _ _ _ _ (c : XC 3 _) (l : XL _) =>
  (ss_cons (xpar 2 3 c (x_list mkN_ok (T.f_list) (xv 1)) (se_lst mkN_ok sa_nil (by decide)))
  (ss_cons (s_for c (si_range1 (x_len (T.f_len) (xv 1)) (by rfl) (T.f_range)) (xg 4 c) (ss_one (s_expr (x_append (xv 3) (x_pop (xv 2) (se_call (d__law_draw T B) c.xr.mono (by rfl) (sa_cons (xv 0) (sa_cons (x_len (T.f_len) (xv 2)) sa_nil)) (by rfl)))))))
  (ss_one (s_ret (xv 3)))))
def q__law_network_8 : MS := sDrop (mBM "list" appendD (mVar 9) [mTup [mF F__law_pick [mVar 0, mVar 8], mVar 10, mVar 11, m2 addD (mVar 11) (mF F__law_draw [mVar 0, mVar 3])]])
def b__law_network_6 : MS := sSeq (sSet 11 (m2 addD (mC (.int 1)) (mF F__law_draw [mVar 0, mVar 3]))) (q__law_network_8)
def q__law_network_15 : MS := sAsg (m2 subD (mF F__law_draw [mVar 0, m2 addD (m2 (mulD mkF) (mC (.int 2)) (mVar 3)) (mC (.int 2))]) (mF F__law_pick [mVar 0, mLst mkF [mC (.int 1), mC (.int 1), mC (.int 2)]])) (gSubD (mVar 12) (mVar 16))
def q__law_network_13 : MS := sIf (asB (m2 neD (mVar 14) (mVar 15))) (sSeq (sSet 16 (mIf (asB (m2 eqD (mF F__law_draw [mVar 0, mC (.int 2)]) (mC (.int 0)))) (mTup [mVar 14, mVar 15]) (mTup [mVar 15, mVar 14]))) (q__law_network_15)) (sNil)
def q__law_network_12 : MS := sSeq (sSet 15 (mF F__law_draw [mVar 0, mVar 4])) (q__law_network_13)
def b__law_network_10 : MS := sSeq (sSet 14 (mIf (mAnd (asB (m2 neD (mVar 7) (mLst mkF []))) (asB (m2 eqD (mF F__law_draw [mVar 0, mC (.int 2)]) (mC (.int 0))))) (mF F__law_pick [mVar 0, mVar 7]) (mF F__law_draw [mVar 0, mVar 4]))) (q__law_network_12)
def q__law_network_16 : MS := sRet (mTup [mVar 4, mF (f1 tupleD) [mVar 9], mF (f1 tupleD) [mLC finF (mIt (mF (f1 sortedD) [mVar 12])) (gNm 16) (mYes) (m2 addD (mVar 16) (mTup [m2 ixD (mVar 12) (mVar 16)])) [16]]])
def q__law_network_10 : MS := sSeq (sFor (mRng1 (m2 addD (mC (.int 2)) (mF F__law_draw [mVar 0, mC (.int 5)]))) (gNm 13) b__law_network_10) (q__law_network_16)
def q__law_network_9 : MS := sSeq (sSet 12 (mNewT)) (q__law_network_10)
def q__law_network_6 : MS := sSeq (sFor (mIt (mVar 7)) (gNm 10) b__law_network_6) (q__law_network_9)
def q__law_network_5 : MS := sSeq (sPar 8 9 (mLC finF (mRng1 (mVar 4)) (gNm 14) (asB (m2 notinD (mVar 14) (mVar 7))) (mVar 14) [14]) (mLst mkN [])) (q__law_network_6)
def q__law_network_4 : MS := sSeq (sSet 7 (mF (f1 sortedD) [mSlice mkF (mVar 5) mNoPart (mPart (mVar 6))])) (q__law_network_5)
def q__law_network_3 : MS := sSeq (sSet 6 (mF (f2 min2D) [mF F__law_draw [mVar 0, m2 addD (mVar 2) (mC (.int 1))], m2 subD (mVar 4) (mC (.int 2))])) (q__law_network_4)
def q__law_network_2 : MS := sSeq (sSet 5 (mF F__law_shuffled [mVar 0, mLRg2 mkF (mC (.int 1)) (mVar 4)])) (q__law_network_3)
def m__law_network : MS := sSeq (sSet 4 (m2 addD (mC (.int 3)) (mF F__law_draw [mVar 0, m2 subD (mVar 1) (mC (.int 2))]))) (q__law_network_2)
def F__law_network : FL := fun ds st0 => (dropR) st0 (bodyF m__law_network 17 ds st0)
theorem d__law_network (T : Txt K mg) (B : TabAll K mg base) : DefS P w K mg base 5 "_law_network" ["pen", "most", "links", "size"] F__law_network :=
  def_mk (dropR) wr_drop T.t__law_network B (N := ["pen", "most", "links", "size", "m", "order", "many", "ends", "ours", "told", "c", "least", "gaps", "time", "x", "y", "pair"]) ⟨rfl, rfl, rfl, by decide +kernel, rfl, by decide +kernel, by decide +kernel⟩ (fun _ _ _ _ _ _ us hl => match us, hl with | [_, _, _, _], _ => rfl) fun _ _ _ _ _ _ _ (c : XC 4 _) (l : XL _) =>
  (ss_cons (xset 4 c (x_add se_int (se_call (d__law_draw T B) c.xr.mono (by rfl) (sa_cons (xv 0) (sa_cons (x_sub (xv 1) se_int) sa_nil)) (by rfl))))
  (ss_cons (xset 5 c (se_call (d__law_shuffled T B) c.xr.mono (by rfl) (sa_cons (xv 0) (sa_cons (x_listRg2 mkF_ok c se_int (xv 4) (T.f_list) (T.f_range)) sa_nil)) (by rfl)))
  (ss_cons (xset 6 c (x_min2 c (T.f_min) (sa_cons (se_call (d__law_draw T B) c.xr.mono (by rfl) (sa_cons (xv 0) (sa_cons (x_add (xv 2) se_int) sa_nil)) (by rfl)) (sa_cons (x_sub (xv 4) se_int) sa_nil))))
  (ss_cons (xset 7 c (x_sorted c (sa_cons (se_slice mkF_ok (xv 5) so_none (so_some (xv 6))) sa_nil) (by rfl) (T.f_sorted)))
  (ss_cons (xpar 8 9 c (se_lc finF_ok c (si_range1 (xv 4) (by rfl) (T.f_range)) (own := [("x", 14)]) (by rfl) (by decide) (fun _ _ _ _ _ c' => (xg 14 c')) (fun _ _ _ _ _ c' => (sts_one (t_notin c' (xv 14) (xv 7)))) (fun _ _ _ _ _ c' => (xv 14))) (se_lst mkN_ok sa_nil (by decide)))
  (ss_cons (s_for c (si_seq (xv 7)) (xg 10 c) (ss_cons (xset 11 c (x_add se_int (se_call (d__law_draw T B) c.xr.mono (by rfl) (sa_cons (xv 0) (sa_cons (xv 3) sa_nil)) (by rfl))))
  (ss_one (s_expr (x_append (xv 9) (se_tup (sa_cons (se_call (d__law_pick T B) c.xr.mono (by rfl) (sa_cons (xv 0) (sa_cons (xv 8) sa_nil)) (by rfl)) (sa_cons (xv 10) (sa_cons (xv 11) (sa_cons (x_add (xv 11) (se_call (d__law_draw T B) c.xr.mono (by rfl) (sa_cons (xv 0) (sa_cons (xv 3) sa_nil)) (by rfl))) sa_nil)))) (by decide)))))))
  (ss_cons (xset 12 c se_newT)
  (ss_cons (s_for c (si_range1 (x_add se_int (se_call (d__law_draw T B) c.xr.mono (by rfl) (sa_cons (xv 0) (sa_cons se_int sa_nil)) (by rfl))) (by rfl) (T.f_range)) (xg 13 c) (ss_cons (xset 14 c (se_if (sw_and (t_ne c (xv 7) (se_lst mkF_ok sa_nil (by decide))) (sw_and1 (t_eq c (se_call (d__law_draw T B) c.xr.mono (by rfl) (sa_cons (xv 0) (sa_cons se_int sa_nil)) (by rfl)) se_int))).st (se_call (d__law_pick T B) c.xr.mono (by rfl) (sa_cons (xv 0) (sa_cons (xv 7) sa_nil)) (by rfl)) (se_call (d__law_draw T B) c.xr.mono (by rfl) (sa_cons (xv 0) (sa_cons (xv 4) sa_nil)) (by rfl))))
  (ss_cons (xset 15 c (se_call (d__law_draw T B) c.xr.mono (by rfl) (sa_cons (xv 0) (sa_cons (xv 4) sa_nil)) (by rfl)))
  (ss_one (s_if (t_ne c (xv 14) (xv 15)) (ss_cons (xset 16 c (se_if (t_eq c (se_call (d__law_draw T B) c.xr.mono (by rfl) (sa_cons (xv 0) (sa_cons se_int sa_nil)) (by rfl)) se_int) (se_tup (sa_cons (xv 14) (sa_cons (xv 15) sa_nil)) (by decide)) (se_tup (sa_cons (xv 15) (sa_cons (xv 14) sa_nil)) (by decide))))
  (ss_one (s_asg (x_sub (se_call (d__law_draw T B) c.xr.mono (by rfl) (sa_cons (xv 0) (sa_cons (x_add (x_mul mkF_ok se_int (xv 3)) se_int) sa_nil)) (by rfl)) (se_call (d__law_pick T B) c.xr.mono (by rfl) (sa_cons (xv 0) (sa_cons (se_lst mkF_ok (sa_cons se_int (sa_cons se_int (sa_cons se_int sa_nil))) (by decide)) sa_nil)) (by rfl))) (sg_sub c.xr (xv 12) (xv 16))))) ss_nil)))))
  (ss_one (s_ret (se_tup (sa_cons (xv 4) (sa_cons (x_tuple (T.f_tuple) (xv 9)) (sa_cons (x_tuple (T.f_tuple) (se_lc finF_ok c (si_seq (x_sorted c (sa_cons (xv 12) sa_nil) (by rfl) (T.f_sorted))) (own := [("pair", 16)]) (by rfl) (by decide) (fun _ _ _ _ _ c' => (xg 16 c')) (fun _ _ _ _ _ c' => sts_nil) (fun _ _ _ _ _ c' => (x_add (xv 16) (se_tup (sa_cons (x_ix c' (xv 12) (xv 16)) sa_nil) (by decide)))))) sa_nil))) (by decide))))))))))))
def q__law_ours_2 : MS := sRet (mLC finF (mRng1 (m2 ixD (mVar 0) (mC (.int 0)))) (gNm 3) (asB (m2 notinD (mVar 3) (mVar 1))) (mVar 3) [3])
def m__law_ours : MS := sSeq (sSet 1 (mLC finF (mIt (m2 ixD (mVar 0) (mC (.int 1)))) (gNm 2) (mYes) (m2 ixD (mVar 2) (mC (.int 1))) [2])) (q__law_ours_2)
def F__law_ours : FL := fun ds st0 => (fun _ r => r) st0 (bodyF m__law_ours 4 ds st0)
theorem d__law_ours (T : Txt K mg) (B : TabAll K mg base) : DefS P w K mg base 3 "_law_ours" ["network"] F__law_ours :=
  def_mk (fun _ r => r) wr_id T.t__law_ours B (N := ["network", "ends", "link", "x"]) ⟨rfl, rfl, rfl, by decide +kernel, rfl, by decide +kernel, by decide +kernel⟩ (fun _ _ _ _ _ _ us hl => match us, hl with | [_], _ => rfl) fun _ _ _ _ _ _ _ (c : XC 2 _) (l : XL _) =>
  (ss_cons (xset 1 c (se_lc finF_ok c (si_seq (x_ix c (xv 0) se_int)) (own := [("link", 2)]) (by rfl) (by decide) (fun _ _ _ _ _ c' => (xg 2 c')) (fun _ _ _ _ _ c' => sts_nil) (fun _ _ _ _ _ c' => (x_ix c' (xv 2) se_int))))
  (ss_one (s_ret (se_lc finF_ok c (si_range1 (x_ix c (xv 0) se_int) (by rfl) (T.f_range)) (own := [("x", 3)]) (by rfl) (by decide) (fun _ _ _ _ _ c' => (xg 3 c')) (fun _ _ _ _ _ c' => (sts_one (t_notin c' (xv 3) (xv 1)))) (fun _ _ _ _ _ c' => (xv 3))))))
def b__law_lengths_4 : MS := sSet 6 (m2 addD (mVar 6) (mLC finF (mRng2 (mVar 4) (m2 addD (mVar 5) (mC (.int 1)))) (gNm 8) (mYes) (m2 addD (mVar 7) (mTup [mVar 8])) [8]))
def q__law_lengths_6 : MS := sSet 1 (mVar 6)
def q__law_lengths_4 : MS := sSeq (sFor (mIt (mVar 1)) (gNm 7) b__law_lengths_4) (q__law_lengths_6)
def b__law_lengths_2 : MS := sSeq (sSet 6 (mLst mkF [])) (q__law_lengths_4)
def q__law_lengths_7 : MS := sRet (mVar 1)
def q__law_lengths_2 : MS := sSeq (sFor (mIt (m2 ixD (mVar 0) (mC (.int 1)))) (gTp 4 (gsCons (gNm 2) (gsCons (gNm 3) (gsCons (gNm 4) (gsCons (gNm 5) (gsNil)))))) b__law_lengths_2) (q__law_lengths_7)
def m__law_lengths : MS := sSeq (sSet 1 (mLst mkF [mTup []])) (q__law_lengths_2)
def F__law_lengths : FL := fun ds st0 => (fun _ r => r) st0 (bodyF m__law_lengths 9 ds st0)
theorem d__law_lengths (T : Txt K mg) (B : TabAll K mg base) : DefS P w K mg base 3 "_law_lengths" ["network"] F__law_lengths :=
  def_mk (fun _ r => r) wr_id T.t__law_lengths B (N := ["network", "found", "a", "c", "least", "greatest", "longer", "told", "length"]) ⟨rfl, rfl, rfl, by decide +kernel, rfl, by decide +kernel, by decide +kernel⟩ (fun _ _ _ _ _ _ us hl => match us, hl with | [_], _ => rfl) fun _ _ _ _ _ _ _ (c : XC 2 _) (l : XL _) =>
  (ss_cons (xset 1 c (se_lst mkF_ok (sa_cons (se_tup sa_nil (by decide)) sa_nil) (by decide)))
  (ss_cons (s_for c (si_seq (x_ix c (xv 0) se_int)) (sg_tup c.calm (sgs_cons (xg 2 c) (sgs_cons (xg 3 c) (sgs_cons (xg 4 c) (sgs_cons (xg 5 c) sgs_nil))))) (ss_cons (xset 6 c (se_lst mkF_ok sa_nil (by decide)))
  (ss_cons (s_for c (si_seq (xv 1)) (xg 7 c) (ss_one (xset 6 c (x_add (xv 6) (se_lc finF_ok c (si_range2 (xv 4) (x_add (xv 5) se_int) (by rfl) (T.f_range)) (own := [("length", 8)]) (by rfl) (by decide) (fun _ _ _ _ _ c' => (xg 8 c')) (fun _ _ _ _ _ c' => sts_nil) (fun _ _ _ _ _ c' => (x_add (xv 7) (se_tup (sa_cons (xv 8) sa_nil) (by decide)))))))))
  (ss_one (xset 1 c (xv 6))))))
  (ss_one (s_ret (xv 1)))))
def b__law_kept_1 : MS := sIf (mNot (asB (mCh leD leD (mVar 4) (m2 subD (m2 ixD (mVar 1) (mVar 3)) (m2 ixD (mVar 1) (mVar 2))) (mVar 5)))) (sRet (mC (.bl false))) (sNil)
def q__law_kept_4 : MS := sRet (m2 eqD (mLC finF (mIt (m2 ixD (mVar 0) (mC (.int 2)))) (gTp 3 (gsCons (gNm 6) (gsCons (gNm 7) (gsCons (gNm 8) (gsNil))))) (asB (m2 gtD (m2 subD (m2 ixD (mVar 1) (mVar 7)) (m2 ixD (mVar 1) (mVar 6))) (mVar 8))) (mC (.int 1)) [6, 7, 8]) (mLst mkF []))
def m__law_kept : MS := sSeq (sFor (mIt (m2 ixD (mVar 0) (mC (.int 1)))) (gTp 4 (gsCons (gNm 2) (gsCons (gNm 3) (gsCons (gNm 4) (gsCons (gNm 5) (gsNil)))))) b__law_kept_1) (q__law_kept_4)
def F__law_kept : FL := fun ds st0 => (fun _ r => r) st0 (bodyF m__law_kept 9 ds st0)
theorem d__law_kept (T : Txt K mg) (B : TabAll K mg base) : DefS P w K mg base 3 "_law_kept" ["network", "play"] F__law_kept :=
  def_mk (fun _ r => r) wr_id T.t__law_kept B (N := ["network", "play", "a", "c", "least", "greatest", "x", "y", "d"]) ⟨rfl, rfl, rfl, by decide +kernel, rfl, by decide +kernel, by decide +kernel⟩ (fun _ _ _ _ _ _ us hl => match us, hl with | [_, _], _ => rfl) fun _ _ _ _ _ _ _ (c : XC 2 _) (l : XL _) =>
  (ss_cons (s_for c (si_seq (x_ix c (xv 0) se_int)) (sg_tup c.calm (sgs_cons (xg 2 c) (sgs_cons (xg 3 c) (sgs_cons (xg 4 c) (sgs_cons (xg 5 c) sgs_nil))))) (ss_one (s_if (st_not (t_chain op_le op_le srv_le srv_le (xv 4) (x_sub (x_ix c (xv 1) (xv 3)) (x_ix c (xv 1) (xv 2))) (xv 5))) (ss_one (s_ret se_bl)) ss_nil)))
  (ss_one (s_ret (x_eq c (se_lc finF_ok c (si_seq (x_ix c (xv 0) se_int)) (own := [("x", 6), ("y", 7), ("d", 8)]) (by rfl) (by decide) (fun _ _ _ _ _ c' => (sg_tup c'.calm (sgs_cons (xg 6 c') (sgs_cons (xg 7 c') (sgs_cons (xg 8 c') sgs_nil))))) (fun _ _ _ _ _ c' => (sts_one (t_gt (x_sub (x_ix c' (xv 1) (xv 7)) (x_ix c' (xv 1) (xv 6))) (xv 8)))) (fun _ _ _ _ _ c' => se_int)) (se_lst mkF_ok sa_nil (by decide))))))
def b__law_play_2 : MS := sAsg (mVar 5) (gSubD (mVar 3) (mVar 4))
def b__law_play_4 : MS := sAsg (m2 addD (m2 ixD (mVar 3) (m2 ixD (mVar 6) (mC (.int 0)))) (mVar 7)) (gSubD (mVar 3) (m2 ixD (mVar 6) (mC (.int 1))))
def q__law_play_6 : MS := sRet (mF (f1 tupleD) [mVar 3])
def q__law_play_4 : MS := sSeq (sFor (mZip [m2 ixD (mVar 0) (mC (.int 1)), mVar 2]) (gTp 2 (gsCons (gNm 6) (gsCons (gNm 7) (gsNil)))) b__law_play_4) (q__law_play_6)
def q__law_play_2 : MS := sSeq (sFor (mZip [mF F__law_ours [mVar 0], mVar 1]) (gTp 2 (gsCons (gNm 4) (gsCons (gNm 5) (gsNil)))) b__law_play_2) (q__law_play_4)
def m__law_play : MS := sSeq (sSet 3 (m2 (mulD mkN) (mLst mkF [mC (.int 0)]) (m2 ixD (mVar 0) (mC (.int 0))))) (q__law_play_2)
def F__law_play : FL := fun ds st0 => (dropR) st0 (bodyF m__law_play 8 ds st0)
theorem d__law_play (T : Txt K mg) (B : TabAll K mg base) : DefS P w K mg base 4 "_law_play" ["network", "times", "lengths"] F__law_play :=
  def_mk (dropR) wr_drop T.t__law_play B (N := ["network", "times", "lengths", "play", "x", "time", "link", "length"]) ⟨rfl, rfl, rfl, by decide +kernel, rfl, by decide +kernel, by decide +kernel⟩ (fun _ _ _ _ _ _ us hl => match us, hl with | [_, _, _], _ => rfl) fun _ _ _ _ _ _ _ (c : XC 3 _) (l : XL _) =>
  (ss_cons (xset 3 c (x_mul mkN_ok (se_lst mkF_ok (sa_cons se_int sa_nil) (by decide)) (x_ix c (xv 0) se_int)))
  (ss_cons (s_for c (si_zip (sa_cons (se_call (d__law_ours T B) c.xr.mono (by rfl) (sa_cons (xv 0) sa_nil) (by rfl)) (sa_cons (xv 1) sa_nil)) (by rfl) (T.f_zip)) (sg_tup c.calm (sgs_cons (xg 4 c) (sgs_cons (xg 5 c) sgs_nil))) (ss_one (s_asg (xv 5) (sg_sub c.xr (xv 3) (xv 4)))))
  (ss_cons (s_for c (si_zip (sa_cons (x_ix c (xv 0) se_int) (sa_cons (xv 2) sa_nil)) (by rfl) (T.f_zip)) (sg_tup c.calm (sgs_cons (xg 6 c) (sgs_cons (xg 7 c) sgs_nil))) (ss_one (s_asg (x_add (x_ix c (xv 3) (x_ix c (xv 6) se_int)) (xv 7)) (sg_sub c.xr (xv 3) (x_ix c (xv 6) se_int)))))
  (ss_one (s_ret (x_tuple (T.f_tuple) (xv 3)))))))
def b__law_times_4 : MS := sSet 4 (m2 addD (mVar 4) (mLC finF (mRng1 (m2 addD (mVar 1) (mC (.int 1)))) (gNm 6) (mYes) (m2 addD (mVar 5) (mTup [mVar 6])) [6]))
def q__law_times_6 : MS := sSet 2 (mVar 4)
def q__law_times_4 : MS := sSeq (sFor (mIt (mVar 2)) (gNm 5) b__law_times_4) (q__law_times_6)
def b__law_times_2 : MS := sSeq (sSet 4 (mLst mkF [])) (q__law_times_4)
def q__law_times_7 : MS := sRet (mVar 2)
def q__law_times_2 : MS := sSeq (sFor (mRng1 (m2 subD (mVar 0) (mC (.int 1)))) (gNm 3) b__law_times_2) (q__law_times_7)
def m__law_times : MS := sSeq (sSet 2 (mLst mkF [mTup [mC (.int 0)]])) (q__law_times_2)
def F__law_times : FL := fun ds st0 => (fun _ r => r) st0 (bodyF m__law_times 7 ds st0)
theorem d__law_times (T : Txt K mg) (B : TabAll K mg base) : DefS P w K mg base 3 "_law_times" ["many", "most"] F__law_times :=
  def_mk (fun _ r => r) wr_id T.t__law_times B (N := ["many", "most", "found", "k", "longer", "told", "time"]) ⟨rfl, rfl, rfl, by decide +kernel, rfl, by decide +kernel, by decide +kernel⟩ (fun _ _ _ _ _ _ us hl => match us, hl with | [_, _], _ => rfl) fun _ _ _ _ _ _ _ (c : XC 2 _) (l : XL _) =>
  (ss_cons (xset 2 c (se_lst mkF_ok (sa_cons (se_tup (sa_cons se_int sa_nil) (by decide)) sa_nil) (by decide)))
  (ss_cons (s_for c (si_range1 (x_sub (xv 0) se_int) (by rfl) (T.f_range)) (xg 3 c) (ss_cons (xset 4 c (se_lst mkF_ok sa_nil (by decide)))
  (ss_cons (s_for c (si_seq (xv 2)) (xg 5 c) (ss_one (xset 4 c (x_add (xv 4) (se_lc finF_ok c (si_range1 (x_add (xv 1) se_int) (by rfl) (T.f_range)) (own := [("time", 6)]) (by rfl) (by decide) (fun _ _ _ _ _ c' => (xg 6 c')) (fun _ _ _ _ _ c' => sts_nil) (fun _ _ _ _ _ c' => (x_add (xv 5) (se_tup (sa_cons (xv 6) sa_nil) (by decide)))))))))
  (ss_one (xset 2 c (xv 4))))))
  (ss_one (s_ret (xv 2)))))
def b__law_rows_3 : MS := sAsg (mTup [mVar 5, mVar 7, mVar 8]) (gSubD (mVar 4) (mVar 6))
def q__law_rows_8 : MS := sAsg (mTup [m2 ixD (m2 ixD (mVar 4) (mVar 11)) (mC (.int 0)), m2 ixD (m2 ixD (mVar 4) (mVar 12)) (mC (.int 0)), m2 subD (m2 addD (mVar 13) (m2 ixD (m2 ixD (mVar 4) (mVar 11)) (mC (.int 1)))) (m2 ixD (m2 ixD (mVar 4) (mVar 12)) (mC (.int 2)))]) (gSubD (mVar 9) (mTup [mC (.str "told"), mVar 10]))
def b__law_rows_6 : MS := sSeq (sAsg (m2 ixD (mVar 3) (mVar 10)) (gTp 3 (gsCons (gNm 11) (gsCons (gNm 12) (gsCons (gNm 13) (gsNil)))))) (q__law_rows_8)
def b__law_rows_9 : MS := sAsg (mTup [m2 ixD (m2 ixD (mVar 4) (mVar 12)) (mC (.int 0)), mC (.int 0), m2 ixD (m2 ixD (mVar 4) (mVar 12)) (mC (.int 1))]) (gSubD (mVar 9) (mTup [mC (.str "begin"), mVar 12]))
def q__law_rows_11 : MS := sRet (mVar 9)
def q__law_rows_9 : MS := sSeq (sFor (mRng2 (mC (.int 1)) (mVar 1)) (gNm 12) b__law_rows_9) (q__law_rows_11)
def q__law_rows_6 : MS := sSeq (sFor (mRng1 (mF (f1 lenD) [mVar 3])) (gNm 10) b__law_rows_6) (q__law_rows_9)
def q__law_rows_5 : MS := sSeq (sSet 9 (mNewT)) (q__law_rows_6)
def q__law_rows_3 : MS := sSeq (sFor (mIt (mVar 2)) (gTp 4 (gsCons (gNm 5) (gsCons (gNm 6) (gsCons (gNm 7) (gsCons (gNm 8) (gsNil)))))) b__law_rows_3) (q__law_rows_5)
def q__law_rows_2 : MS := sSeq (sSet 4 (mLC finN (mRng1 (mVar 1)) (gNm 11) (mYes) (mTup [mVar 11, mC (.int 0), mC (.int 0)]) [11])) (q__law_rows_3)
def m__law_rows : MS := sSeq (sAsg (mVar 0) (gTp 3 (gsCons (gNm 1) (gsCons (gNm 2) (gsCons (gNm 3) (gsNil)))))) (q__law_rows_2)
def F__law_rows : FL := fun ds st0 => (fun _ r => r) st0 (bodyF m__law_rows 14 ds st0)
theorem d__law_rows (T : Txt K mg) (B : TabAll K mg base) : DefS P w K mg base 3 "_law_rows" ["network"] F__law_rows :=
  def_mk (fun _ r => r) wr_id T.t__law_rows B (N := ["network", "m", "links", "gaps", "bases", "a", "c", "least", "greatest", "found", "g", "x", "y", "d"]) ⟨rfl, rfl, rfl, by decide +kernel, rfl, by decide +kernel, by decide +kernel⟩ (fun _ _ _ _ _ _ us hl => match us, hl with | [_], _ => rfl) fun _ _ _ _ _ _ _ (c : XC 2 _) (l : XL _) =>
  (ss_cons (s_asg (xv 0) (sg_tup c.calm (sgs_cons (xg 1 c) (sgs_cons (xg 2 c) (sgs_cons (xg 3 c) sgs_nil)))))
  (ss_cons (s_setLcX 4 finN_ok c (si_range1 (xv 1) (by rfl) (T.f_range)) (own := [("x", 11)]) (by rfl) (by decide) (fun _ _ _ _ _ c' => (xg 11 c')) (fun _ _ _ _ _ c' => sts_nil) (fun _ _ _ _ _ c' => (se_tup (sa_cons (xv 11) (sa_cons se_int (sa_cons se_int sa_nil))) (by decide))))
  (ss_cons (s_for c (si_seq (xv 2)) (sg_tup c.calm (sgs_cons (xg 5 c) (sgs_cons (xg 6 c) (sgs_cons (xg 7 c) (sgs_cons (xg 8 c) sgs_nil))))) (ss_one (s_asg (se_tup (sa_cons (xv 5) (sa_cons (xv 7) (sa_cons (xv 8) sa_nil))) (by decide)) (sg_sub c.xr (xv 4) (xv 6)))))
  (ss_cons (xset 9 c se_newT)
  (ss_cons (s_for c (si_range1 (x_len (T.f_len) (xv 3)) (by rfl) (T.f_range)) (xg 10 c) (ss_cons (s_asg (x_ix c (xv 3) (xv 10)) (sg_tup c.calm (sgs_cons (xg 11 c) (sgs_cons (xg 12 c) (sgs_cons (xg 13 c) sgs_nil)))))
  (ss_one (s_asg (se_tup (sa_cons (x_ix c (x_ix c (xv 4) (xv 11)) se_int) (sa_cons (x_ix c (x_ix c (xv 4) (xv 12)) se_int) (sa_cons (x_sub (x_add (xv 13) (x_ix c (x_ix c (xv 4) (xv 11)) se_int)) (x_ix c (x_ix c (xv 4) (xv 12)) se_int)) sa_nil))) (by decide)) (sg_sub c.xr (xv 9) (se_tup (sa_cons se_str (sa_cons (xv 10) sa_nil)) (by decide)))))))
  (ss_cons (s_for c (si_range2 se_int (xv 1) (by rfl) (T.f_range)) (xg 12 c) (ss_one (s_asg (se_tup (sa_cons (x_ix c (x_ix c (xv 4) (xv 12)) se_int) (sa_cons se_int (sa_cons (x_ix c (x_ix c (xv 4) (xv 12)) se_int) sa_nil))) (by decide)) (sg_sub c.xr (xv 9) (se_tup (sa_cons se_str (sa_cons (xv 12) sa_nil)) (by decide))))))
  (ss_one (s_ret (xv 9)))))))))
def q__law_ring_right_6 : MS := sRet (m2 ltD (mF (f1 sumD) [mLC finF (mIt (mVar 2)) (gNm 6) (mYes) (m2 ixD (mVar 6) (mC (.int 2))) [6]]) (mC (.int 0)))
def q__law_ring_right_4 : MS := sSeq (sIf (asB (m2 neD (mLC finF (mZip [mVar 2, m2 addD (mSlice mkF (mVar 2) (mPart (mC (.int 1))) mNoPart) (mSlice mkF (mVar 2) mNoPart (mPart (mC (.int 1))))]) (gTp 2 (gsCons (gNm 4) (gsCons (gNm 5) (gsNil)))) (asB (m2 neD (m2 ixD (mVar 4) (mC (.int 1))) (m2 ixD (mVar 5) (mC (.int 0))))) (mC (.int 1)) [4, 5]) (mLst mkF []))) (sRet (mC (.bl false))) (sNil)) (q__law_ring_right_6)
def q__law_ring_right_3 : MS := sSeq (sSet 2 (mLC finF (mIt (mVar 1)) (gNm 3) (mYes) (m2 ixD (mVar 0) (mVar 3)) [3])) (q__law_ring_right_4)
def m__law_ring_right : MS := sSeq (sIf (mOr (asB (m2 eqD (mVar 1) (mTup []))) (asB (m2 neD (mLC finF (mIt (mVar 1)) (gNm 3) (asB (m2 notinD (mVar 3) (mVar 0))) (mC (.int 1)) [3]) (mLst mkF [])))) (sRet (mC (.bl false))) (sNil)) (q__law_ring_right_3)
def F__law_ring_right : FL := fun ds st0 => (fun _ r => r) st0 (bodyF m__law_ring_right 7 ds st0)
theorem d__law_ring_right (T : Txt K mg) (B : TabAll K mg base) : DefS P w K mg base 3 "_law_ring_right" ["rows", "ring"] F__law_ring_right :=
  def_mk (fun _ r => r) wr_id T.t__law_ring_right B (N := ["rows", "ring", "gaps", "name", "one", "two", "gap"]) ⟨rfl, rfl, rfl, by decide +kernel, rfl, by decide +kernel, by decide +kernel⟩ (fun _ _ _ _ _ _ us hl => match us, hl with | [_, _], _ => rfl) fun _ _ _ _ _ _ _ (c : XC 2 _) (l : XL _) =>
  (ss_cons (s_if (sw_or (t_eq c (xv 1) (se_tup sa_nil (by decide))) (sw_or1 (t_ne c (se_lc finF_ok c (si_seq (xv 1)) (own := [("name", 3)]) (by rfl) (by decide) (fun _ _ _ _ _ c' => (xg 3 c')) (fun _ _ _ _ _ c' => (sts_one (t_notin c' (xv 3) (xv 0)))) (fun _ _ _ _ _ c' => se_int)) (se_lst mkF_ok sa_nil (by decide))))).st (ss_one (s_ret se_bl)) ss_nil)
  (ss_cons (s_setLcX 2 finF_ok c (si_seq (xv 1)) (own := [("name", 3)]) (by rfl) (by decide) (fun _ _ _ _ _ c' => (xg 3 c')) (fun _ _ _ _ _ c' => sts_nil) (fun _ _ _ _ _ c' => (x_ix c' (xv 0) (xv 3))))
  (ss_cons (s_if (t_ne c (se_lc finF_ok c (si_zip (sa_cons (xv 2) (sa_cons (x_add (se_slice mkF_ok (xv 2) (so_some se_int) so_none) (se_slice mkF_ok (xv 2) so_none (so_some se_int))) sa_nil)) (by rfl) (T.f_zip)) (own := [("one", 4), ("two", 5)]) (by rfl) (by decide) (fun _ _ _ _ _ c' => (sg_tup c'.calm (sgs_cons (xg 4 c') (sgs_cons (xg 5 c') sgs_nil)))) (fun _ _ _ _ _ c' => (sts_one (t_ne c' (x_ix c' (xv 4) se_int) (x_ix c' (xv 5) se_int)))) (fun _ _ _ _ _ c' => se_int)) (se_lst mkF_ok sa_nil (by decide))) (ss_one (s_ret se_bl)) ss_nil)
  (ss_one (s_ret (x_lt c (x_sum c (T.f_sum) (sa_cons (se_lc finF_ok c (si_seq (xv 2)) (own := [("gap", 6)]) (by rfl) (by decide) (fun _ _ _ _ _ c' => (xg 6 c')) (fun _ _ _ _ _ c' => sts_nil) (fun _ _ _ _ _ c' => (x_ix c' (xv 6) se_int))) sa_nil)) se_int))))))
def m__law_always : MS := sRet (m2 eqD (mLC finF (mIt (mF F__law_lengths [mVar 0])) (gNm 2) (mNot (asT (mF F__law_kept [mVar 0, mF F__law_play [mVar 0, mVar 1, mVar 2]]))) (mC (.int 1)) [2]) (mLst mkF []))
def F__law_always : FL := fun ds st0 => (fun _ r => r) st0 (bodyF m__law_always 3 ds st0)
theorem d__law_always (T : Txt K mg) (B : TabAll K mg base) : DefS P w K mg base 5 "_law_always" ["network", "times"] F__law_always :=
  def_mk (fun _ r => r) wr_id T.t__law_always B (N := ["network", "times", "lengths"]) ⟨rfl, rfl, rfl, by decide +kernel, rfl, by decide +kernel, by decide +kernel⟩ (fun _ _ _ _ _ _ us hl => match us, hl with | [_, _], _ => rfl) fun _ _ _ _ _ _ _ (c : XC 4 _) (l : XL _) =>
  (ss_one (s_ret (x_eq c (se_lc finF_ok c (si_seq (se_call (d__law_lengths T B) c.xr.mono (by rfl) (sa_cons (xv 0) sa_nil) (by rfl))) (own := [("lengths", 2)]) (by rfl) (by decide) (fun _ _ _ _ _ c' => (xg 2 c')) (fun _ _ _ _ _ c' => (sts_one (st_not (t_any (se_call (d__law_kept T B) c'.xr.mono (by rfl) (sa_cons (xv 0) (sa_cons (se_call (d__law_play T B) c'.xr.mono (by rfl) (sa_cons (xv 0) (sa_cons (xv 1) (sa_cons (xv 2) sa_nil))) (by rfl)) sa_nil)) (by rfl)))))) (fun _ _ _ _ _ c' => se_int)) (se_lst mkF_ok sa_nil (by decide)))))
def q_law_11 : MS := sIf (mNot (asT (mF F__law_always [mVar 3, m2 ixD (mVar 6) (mC (.int 1))]))) (sRet (mC (.bl false))) (sNil)
def b_law_17 : MS := sIf (asT (mF F__law_always [mVar 3, mVar 7])) (sRet (mC (.bl false))) (sNil)
def q_law_16 : MS := sIf (asB (m2 ltD (mF (f1 lenD) [mVar 5]) (mC (.int 5)))) (sFor (mIt (mF F__law_times [mF (f1 lenD) [mVar 5], mC (.int 8)])) (gNm 7) b_law_17) (sNil)
def q_law_29 : MS := sSet 10 (mF F__law_pick [mVar 1, mLst mkF [mVar 10, m2 addD (mSlice mkF (mVar 12) (mPart (mVar 11)) mNoPart) (mSlice mkF (mVar 12) mNoPart (mPart (mVar 11))), mSlice mkF (mVar 12) (mPart (mC (.int 1))) mNoPart, m2 addD (mVar 12) (mVar 12), m1 revTD (mVar 12)]])
def q_law_28 : MS := sSeq (sSet 12 (m2 ixD (mVar 6) (mC (.int 1)))) (q_law_29)
def q_law_30 : MS := sIf (asB (m2 neD (mF F_is_fixed_answer [mVar 3, mTup [mC (.str "ring"), mVar 10]]) (mF F__law_ring_right [mVar 4, mVar 10]))) (sRet (mC (.bl false))) (sNil)
def q_law_26 : MS := sSeq (sIf (asB (m2 eqD (m2 ixD (mVar 6) (mC (.int 0))) (mC (.str "ring")))) (sSeq (sSet 11 (mF F__law_draw [mVar 1, mF (f1 lenD) [m2 ixD (mVar 6) (mC (.int 1))]])) (q_law_28)) (sNil)) (q_law_30)
def q_law_25 : MS := sSeq (sSet 10 (mF (f1 tupleD) [mLC finF (mRng1 (m2 addD (mC (.int 1)) (mF F__law_draw [mVar 1, mC (.int 3)]))) (gNm 16) (mYes) (mF F__law_pick [mVar 1, mVar 9]) [16]])) (q_law_26)
def q_law_24 : MS := sSeq (sSet 9 (mF (f1 sortedSI) [mVar 4])) (q_law_25)
def q_law_22 : MS := sSeq (sIf (asB (m2 neD (mF F_is_fixed_answer [mVar 3, mTup [mC (.str "times"), mVar 7]]) (mF F__law_always [mVar 3, mVar 7]))) (sRet (mC (.bl false))) (sNil)) (q_law_24)
def b_law_20 : MS := sSeq (sSet 7 (m2 addD (mTup [mC (.int 0)]) (mF (f1 tupleD) [mLC finF (mIt (mSlice mkF (mVar 5) (mPart (mC (.int 1))) mNoPart)) (gNm 15) (mYes) (mF F__law_draw [mVar 1, mC (.int 9)]) [15]]))) (q_law_22)
def b_law_34 : MS := sIf (asB (m2 isnotD (mF F_is_fixed_answer [mVar 3, mVar 14]) (mC (.bl false)))) (sRet (mC (.bl false))) (sNil)
def q_law_34 : MS := sFor (mIt (m2 addD (mVar 13) (mLst mkF [mTup [mC (.str "times"), m2 (mulD mkF) (mTup [mC (.int 1)]) (mF (f1 lenD) [mVar 5])], mTup [mC (.str "times"), m2 (mulD mkF) (mTup [mC (.int 0)]) (m2 addD (mF (f1 lenD) [mVar 5]) (mC (.int 1)))]]))) (gNm 14) b_law_34
def q_law_33 : MS := sSeq (sSet 13 (m2 addD (mVar 13) (mLst mkF [mTup [mC (.str "ring"), mTup [mC .non]], mTup [mC (.str "ring"), mTup [mTup [mC (.str "told"), mC (.int 99)]]]]))) (q_law_34)
def q_law_32 : MS := sSeq (sSet 13 (mLst mkF [mC .non, mTup [], mTup [mC (.str "times")], mTup [mC (.str "times"), mTup []], mTup [mC (.str "times"), mC .non], mTup [mC (.str "ring"), mTup []], mTup [mC (.str "ring"), mC .non], mC (.int 3)])) (q_law_33)
def q_law_20 : MS := sSeq (sFor (mRng1 (mC (.int 6))) (gNm 8) b_law_20) (q_law_32)
def q_law_8 : MS := sSeq (sIf (asB (m2 eqD (m2 ixD (mVar 6) (mC (.int 0))) (mC (.str "times")))) (sSeq (sIf (mOr (asB (m2 neD (mF (f1 lenD) [m2 ixD (mVar 6) (mC (.int 1))]) (mF (f1 lenD) [mVar 5]))) (mOr (asB (m2 neD (m2 ixD (m2 ixD (mVar 6) (mC (.int 1))) (mC (.int 0))) (mC (.int 0)))) (asB (m2 ltD (mF (f1 minTD) [m2 ixD (mVar 6) (mC (.int 1))]) (mC (.int 0)))))) (sRet (mC (.bl false))) (sNil)) (q_law_11)) (sSeq (sIf (mOr (asB (m2 neD (m2 ixD (mVar 6) (mC (.int 0))) (mC (.str "ring")))) (mNot (asT (mF F__law_ring_right [mVar 4, m2 ixD (mVar 6) (mC (.int 1))])))) (sRet (mC (.bl false))) (sNil)) (q_law_16))) (q_law_20)
def q_law_6 : MS := sSeq (sIf (asB (m2 isnotD (mF F_is_fixed_answer [mVar 3, mVar 6]) (mC (.bl true)))) (sRet (mC (.bl false))) (sNil)) (q_law_8)
def q_law_5 : MS := sSeq (sSet 6 (mF F_fixed_answer [mVar 3])) (q_law_6)
def q_law_4 : MS := sSeq (sPar 4 5 (mF F__law_rows [mVar 3]) (mF F__law_ours [mVar 3])) (q_law_5)
def b_law_2 : MS := sSeq (sSet 3 (mF F__law_network [mVar 1, mC (.int 5), mC (.int 2), mC (.int 3)])) (q_law_4)
def q_law_37 : MS := sRet (mC (.bl true))
def q_law_2 : MS := sSeq (sFor (mRng1 (mC (.int 5))) (gNm 2) b_law_2) (q_law_37)
def m_law : MS := sSeq (sSet 1 (mF F__law_pen [mVar 0])) (q_law_2)
def F_law : FL := fun ds st0 => (fun _ r => r) st0 (bodyF m_law 17 ds st0)
theorem d_law (T : Txt K mg) (B : TabAll K mg base) : DefS P w K mg base 10 "law" ["script"] F_law :=
  def_mk (fun _ r => r) wr_id T.t_law B (N := ["script", "pen", "lap", "network", "rows", "ours", "answer", "times", "time", "names", "ring", "at", "told", "wrong", "odd", "x", "k"]) ⟨rfl, rfl, rfl, by decide +kernel, rfl, by decide +kernel, by decide +kernel⟩ (fun _ _ _ _ _ _ us hl => match us, hl with | [_], _ => rfl) fun _ _ _ _ _ _ _ (c : XC 9 _) (l : XL _) =>
  (ss_cons (xset 1 c (se_call (d__law_pen T B) c.xr.mono (by rfl) (sa_cons (xv 0) sa_nil) (by rfl)))
  (ss_cons (s_for c (si_range1 se_int (by rfl) (T.f_range)) (xg 2 c) (ss_cons (xset 3 c (se_call (d__law_network T B) c.xr.mono (by rfl) (sa_cons (xv 1) (sa_cons se_int (sa_cons se_int (sa_cons se_int sa_nil)))) (by rfl)))
  (ss_cons (xpar 4 5 c (se_call (d__law_rows T B) c.xr.mono (by rfl) (sa_cons (xv 3) sa_nil) (by rfl)) (se_call (d__law_ours T B) c.xr.mono (by rfl) (sa_cons (xv 3) sa_nil) (by rfl)))
  (ss_cons (xset 6 c (se_call (d_fixed_answer T B) c.xr.mono (by rfl) (sa_cons (xv 3) sa_nil) (by rfl)))
  (ss_cons (s_if (t_isnot (se_call (d_is_fixed_answer T B) c.xr.mono (by rfl) (sa_cons (xv 3) (sa_cons (xv 6) sa_nil)) (by rfl)) se_bl) (ss_one (s_ret se_bl)) ss_nil)
  (ss_cons (s_if (t_eq c (x_ix c (xv 6) se_int) se_str) (ss_cons (s_if (sw_or (t_ne c (x_len (T.f_len) (x_ix c (xv 6) se_int)) (x_len (T.f_len) (xv 5))) (sw_or (t_ne c (x_ix c (x_ix c (xv 6) se_int) se_int) se_int) (sw_or1 (t_lt c (x_minT c (T.f_min) (sa_cons (x_ix c (xv 6) se_int) sa_nil)) se_int)))).st (ss_one (s_ret se_bl)) ss_nil)
  (ss_one (s_if (st_not (t_any (se_call (d__law_always T B) c.xr.mono (by rfl) (sa_cons (xv 3) (sa_cons (x_ix c (xv 6) se_int) sa_nil)) (by rfl)))) (ss_one (s_ret se_bl)) ss_nil))) (ss_cons (s_if (sw_or (t_ne c (x_ix c (xv 6) se_int) se_str) (sw_or1 (st_not (t_any (se_call (d__law_ring_right T B) c.xr.mono (by rfl) (sa_cons (xv 4) (sa_cons (x_ix c (xv 6) se_int) sa_nil)) (by rfl)))))).st (ss_one (s_ret se_bl)) ss_nil)
  (ss_one (s_if (t_lt c (x_len (T.f_len) (xv 5)) se_int) (ss_one (s_for c (si_seq (se_call (d__law_times T B) c.xr.mono (by rfl) (sa_cons (x_len (T.f_len) (xv 5)) (sa_cons se_int sa_nil)) (by rfl))) (xg 7 c) (ss_one (s_if (t_any (se_call (d__law_always T B) c.xr.mono (by rfl) (sa_cons (xv 3) (sa_cons (xv 7) sa_nil)) (by rfl))) (ss_one (s_ret se_bl)) ss_nil)))) ss_nil))))
  (ss_cons (s_for c (si_range1 se_int (by rfl) (T.f_range)) (xg 8 c) (ss_cons (xset 7 c (x_add (se_tup (sa_cons se_int sa_nil) (by decide)) (x_tuple (T.f_tuple) (se_lc finF_ok c (si_seq (se_slice mkF_ok (xv 5) (so_some se_int) so_none)) (own := [("x", 15)]) (by rfl) (by decide) (fun _ _ _ _ _ c' => (xg 15 c')) (fun _ _ _ _ _ c' => sts_nil) (fun _ _ _ _ _ c' => (se_call (d__law_draw T B) c'.xr.mono (by rfl) (sa_cons (xv 1) (sa_cons se_int sa_nil)) (by rfl)))))))
  (ss_cons (s_if (t_ne c (se_call (d_is_fixed_answer T B) c.xr.mono (by rfl) (sa_cons (xv 3) (sa_cons (se_tup (sa_cons se_str (sa_cons (xv 7) sa_nil)) (by decide)) sa_nil)) (by rfl)) (se_call (d__law_always T B) c.xr.mono (by rfl) (sa_cons (xv 3) (sa_cons (xv 7) sa_nil)) (by rfl))) (ss_one (s_ret se_bl)) ss_nil)
  (ss_cons (xset 9 c (x_sortedSI c (sa_cons (xv 4) sa_nil) (by rfl) (T.f_sorted)))
  (ss_cons (xset 10 c (x_tuple (T.f_tuple) (se_lc finF_ok c (si_range1 (x_add se_int (se_call (d__law_draw T B) c.xr.mono (by rfl) (sa_cons (xv 1) (sa_cons se_int sa_nil)) (by rfl))) (by rfl) (T.f_range)) (own := [("k", 16)]) (by rfl) (by decide) (fun _ _ _ _ _ c' => (xg 16 c')) (fun _ _ _ _ _ c' => sts_nil) (fun _ _ _ _ _ c' => (se_call (d__law_pick T B) c'.xr.mono (by rfl) (sa_cons (xv 1) (sa_cons (xv 9) sa_nil)) (by rfl))))))
  (ss_cons (s_if (t_eq c (x_ix c (xv 6) se_int) se_str) (ss_cons (xset 11 c (se_call (d__law_draw T B) c.xr.mono (by rfl) (sa_cons (xv 1) (sa_cons (x_len (T.f_len) (x_ix c (xv 6) se_int)) sa_nil)) (by rfl)))
  (ss_cons (xset 12 c (x_ix c (xv 6) se_int))
  (ss_one (xset 10 c (se_call (d__law_pick T B) c.xr.mono (by rfl) (sa_cons (xv 1) (sa_cons (se_lst mkF_ok (sa_cons (xv 10) (sa_cons (x_add (se_slice mkF_ok (xv 12) (so_some (xv 11)) so_none) (se_slice mkF_ok (xv 12) so_none (so_some (xv 11)))) (sa_cons (se_slice mkF_ok (xv 12) (so_some se_int) so_none) (sa_cons (x_add (xv 12) (xv 12)) (sa_cons (x_revT (xv 12)) sa_nil))))) (by decide)) sa_nil)) (by rfl)))))) ss_nil)
  (ss_one (s_if (t_ne c (se_call (d_is_fixed_answer T B) c.xr.mono (by rfl) (sa_cons (xv 3) (sa_cons (se_tup (sa_cons se_str (sa_cons (xv 10) sa_nil)) (by decide)) sa_nil)) (by rfl)) (se_call (d__law_ring_right T B) c.xr.mono (by rfl) (sa_cons (xv 4) (sa_cons (xv 10) sa_nil)) (by rfl))) (ss_one (s_ret se_bl)) ss_nil))))))))
  (ss_cons (xset 13 c (se_lst mkF_ok (sa_cons se_non (sa_cons (se_tup sa_nil (by decide)) (sa_cons (se_tup (sa_cons se_str sa_nil) (by decide)) (sa_cons (se_tup (sa_cons se_str (sa_cons (se_tup sa_nil (by decide)) sa_nil)) (by decide)) (sa_cons (se_tup (sa_cons se_str (sa_cons se_non sa_nil)) (by decide)) (sa_cons (se_tup (sa_cons se_str (sa_cons (se_tup sa_nil (by decide)) sa_nil)) (by decide)) (sa_cons (se_tup (sa_cons se_str (sa_cons se_non sa_nil)) (by decide)) (sa_cons se_int sa_nil)))))))) (by decide)))
  (ss_cons (xset 13 c (x_add (xv 13) (se_lst mkF_ok (sa_cons (se_tup (sa_cons se_str (sa_cons (se_tup (sa_cons se_non sa_nil) (by decide)) sa_nil)) (by decide)) (sa_cons (se_tup (sa_cons se_str (sa_cons (se_tup (sa_cons (se_tup (sa_cons se_str (sa_cons se_int sa_nil)) (by decide)) sa_nil) (by decide)) sa_nil)) (by decide)) sa_nil)) (by decide))))
  (ss_one (s_for c (si_seq (x_add (xv 13) (se_lst mkF_ok (sa_cons (se_tup (sa_cons se_str (sa_cons (x_mul mkF_ok (se_tup (sa_cons se_int sa_nil) (by decide)) (x_len (T.f_len) (xv 5))) sa_nil)) (by decide)) (sa_cons (se_tup (sa_cons se_str (sa_cons (x_mul mkF_ok (se_tup (sa_cons se_int sa_nil) (by decide)) (x_add (x_len (T.f_len) (xv 5)) se_int)) sa_nil)) (by decide)) sa_nil)) (by decide)))) (xg 14 c) (ss_one (s_if (t_isnot (se_call (d_is_fixed_answer T B) c.xr.mono (by rfl) (sa_cons (xv 3) (sa_cons (xv 14) sa_nil)) (by rfl)) se_bl) (ss_one (s_ret se_bl)) ss_nil)))))))))))))
  (ss_one (s_ret se_bl))))
end
def hFn : List He.DefD := [⟨("is_whole", none), "is_whole", "is_whole", defArgs s_is_whole, defBody s_is_whole, defScope s_is_whole, [], []⟩,
  ⟨("is_count", none), "is_count", "is_count", defArgs s_is_count, defBody s_is_count, defScope s_is_count, [], []⟩,
  ⟨("is_link", none), "is_link", "is_link", defArgs s_is_link, defBody s_is_link, defScope s_is_link, [], []⟩,
  ⟨("are_links", none), "are_links", "are_links", defArgs s_are_links, defBody s_are_links, defScope s_are_links, [], []⟩,
  ⟨("is_gap", none), "is_gap", "is_gap", defArgs s_is_gap, defBody s_is_gap, defScope s_is_gap, [], []⟩,
  ⟨("are_gaps", none), "are_gaps", "are_gaps", defArgs s_are_gaps, defBody s_are_gaps, defScope s_are_gaps, [], []⟩,
  ⟨("is_network_in", none), "is_network_in", "is_network_in", defArgs s_is_network_in, defBody s_is_network_in, defScope s_is_network_in, [], []⟩,
  ⟨("need_network", none), "need_network", "need_network", defArgs s_need_network, defBody s_need_network, defScope s_need_network, [], []⟩,
  ⟨("ends_in", none), "ends_in", "ends_in", defArgs s_ends_in, defBody s_ends_in, defScope s_ends_in, [], []⟩,
  ⟨("ours_in", none), "ours_in", "ours_in", defArgs s_ours_in, defBody s_ours_in, defScope s_ours_in, [], []⟩,
  ⟨("is_word", none), "is_word", "is_word", defArgs s_is_word, defBody s_is_word, defScope s_is_word, [], []⟩,
  ⟨("bases_in", none), "bases_in", "bases_in", defArgs s_bases_in, defBody s_bases_in, defScope s_bases_in, [], []⟩,
  ⟨("tight_in", none), "tight_in", "tight_in", defArgs s_tight_in, defBody s_tight_in, defScope s_tight_in, [], []⟩,
  ⟨("ring_from", none), "ring_from", "ring_from", defArgs s_ring_from, defBody s_ring_from, defScope s_ring_from, [], []⟩,
  ⟨("soonest_in", none), "soonest_in", "soonest_in", defArgs s_soonest_in, defBody s_soonest_in, defScope s_soonest_in, [], []⟩,
  ⟨("fixed_in", none), "fixed_in", "fixed_in", defArgs s_fixed_in, defBody s_fixed_in, defScope s_fixed_in, [], []⟩,
  ⟨("fixed_answer", none), "fixed_answer", "fixed_answer", defArgs s_fixed_answer, defBody s_fixed_answer, defScope s_fixed_answer, [], []⟩,
  ⟨("is_name_of", none), "is_name_of", "is_name_of", defArgs s_is_name_of, defBody s_is_name_of, defScope s_is_name_of, [], []⟩,
  ⟨("is_ring_in", none), "is_ring_in", "is_ring_in", defArgs s_is_ring_in, defBody s_is_ring_in, defScope s_is_ring_in, [], []⟩,
  ⟨("are_times_in", none), "are_times_in", "are_times_in", defArgs s_are_times_in, defBody s_are_times_in, defScope s_are_times_in, [], []⟩,
  ⟨("is_fixed_in", none), "is_fixed_in", "is_fixed_in", defArgs s_is_fixed_in, defBody s_is_fixed_in, defScope s_is_fixed_in, [], []⟩,
  ⟨("is_fixed_answer", none), "is_fixed_answer", "is_fixed_answer", defArgs s_is_fixed_answer, defBody s_is_fixed_answer, defScope s_is_fixed_answer, [], []⟩,
  ⟨("_law_pen", none), "_law_pen", "_law_pen", defArgs s__law_pen, defBody s__law_pen, defScope s__law_pen, [], []⟩,
  ⟨("_law_draw", none), "_law_draw", "_law_draw", defArgs s__law_draw, defBody s__law_draw, defScope s__law_draw, [], []⟩,
  ⟨("_law_pick", none), "_law_pick", "_law_pick", defArgs s__law_pick, defBody s__law_pick, defScope s__law_pick, [], []⟩,
  ⟨("_law_shuffled", none), "_law_shuffled", "_law_shuffled", defArgs s__law_shuffled, defBody s__law_shuffled, defScope s__law_shuffled, [], []⟩,
  ⟨("_law_network", none), "_law_network", "_law_network", defArgs s__law_network, defBody s__law_network, defScope s__law_network, [], []⟩,
  ⟨("_law_ours", none), "_law_ours", "_law_ours", defArgs s__law_ours, defBody s__law_ours, defScope s__law_ours, [], []⟩,
  ⟨("_law_lengths", none), "_law_lengths", "_law_lengths", defArgs s__law_lengths, defBody s__law_lengths, defScope s__law_lengths, [], []⟩,
  ⟨("_law_kept", none), "_law_kept", "_law_kept", defArgs s__law_kept, defBody s__law_kept, defScope s__law_kept, [], []⟩,
  ⟨("_law_play", none), "_law_play", "_law_play", defArgs s__law_play, defBody s__law_play, defScope s__law_play, [], []⟩,
  ⟨("_law_times", none), "_law_times", "_law_times", defArgs s__law_times, defBody s__law_times, defScope s__law_times, [], []⟩,
  ⟨("_law_rows", none), "_law_rows", "_law_rows", defArgs s__law_rows, defBody s__law_rows, defScope s__law_rows, [], []⟩,
  ⟨("_law_ring_right", none), "_law_ring_right", "_law_ring_right", defArgs s__law_ring_right, defBody s__law_ring_right, defScope s__law_ring_right, [], []⟩,
  ⟨("_law_always", none), "_law_always", "_law_always", defArgs s__law_always, defBody s__law_always, defScope s__law_always, [], []⟩,
  ⟨("law", none), "law", "law", defArgs s_law, defBody s_law, defScope s_law, [], []⟩,
  ⟨("BadNetwork", some "__init__"), "__init__", "BadNetwork.__init__", defArgs s_BadNetwork_init, defBody s_BadNetwork_init, defScope s_BadNetwork_init, [], []⟩]
def lam_all : List Str := (["is_whole", "is_count", "is_link", "are_links", "is_gap", "are_gaps", "is_network_in", "need_network", "ends_in", "ours_in", "is_word", "bases_in", "tight_in", "ring_from", "soonest_in", "fixed_in", "fixed_answer", "is_name_of", "is_ring_in", "are_times_in", "is_fixed_in", "is_fixed_answer", "_law_pen", "_law_draw", "_law_pick"] : List Str) ++ (["_law_shuffled", "_law_network", "_law_ours", "_law_lengths", "_law_kept", "_law_play", "_law_times", "_law_rows", "_law_ring_right", "_law_always", "law"] : List Str)
def hFa : List He.Fa := [.free "all", .free "any", .free "bool", .free "enumerate", .free "int", .free "isinstance", .free "len", .free "list", .free "min", .free "range", .free "sorted", .free "str", .free "sum", .free "tuple", .free "zip", .glo "is_whole", .glo "is_count", .glo "is_link", .glo "are_links", .glo "is_gap", .glo "are_gaps", .glo "is_network_in", .glo "need_network", .glo "ends_in", .glo "ours_in", .glo "is_word", .glo "bases_in", .glo "tight_in", .glo "ring_from", .glo "soonest_in", .glo "fixed_in", .glo "fixed_answer", .glo "is_name_of", .glo "is_ring_in", .glo "are_times_in", .glo "is_fixed_in", .glo "is_fixed_answer", .glo "_law_pen", .glo "_law_draw", .glo "_law_pick", .glo "_law_shuffled", .glo "_law_network", .glo "_law_ours", .glo "_law_lengths", .glo "_law_kept", .glo "_law_play", .glo "_law_times", .glo "_law_rows", .glo "_law_ring_right", .glo "_law_always", .glo "law", .int "MOST_NUMBER" 99, .int "MOST_LINKS" 3, .int "MOST_GAPS" 15, .int "MOST_MOMENTS" 6]
def hOk (K : PySem.W.Frag) : Bool := (lam_all.all fun x => lamB K x) && (clsB K "BadNetwork" fs_BadNetwork)
abbrev R : PySem.W.OpenRow := PySem.W.OpenLaw.row PySem.Challenge.rw_timesindoubt_k15_whole_fixed_times
def names : List PySem.Str := (["DoubtError", "BadNetwork", "is_whole", "is_count", "MOST_MOMENTS", "MOST_LINKS", "MOST_GAPS", "MOST_NUMBER", "is_link", "are_links", "is_gap", "are_gaps", "is_network_in", "need_network", "ends_in", "ours_in", "is_word", "bases_in", "tight_in", "ring_from", "soonest_in", "fixed_in", "fixed_answer", "is_ring_in", "is_name_of", "are_times_in", "is_fixed_in", "is_fixed_answer", "_law_pen", "_law_draw"] : List PySem.Str) ++ (["_law_pick", "_law_shuffled", "_law_network", "_law_ours", "_law_lengths", "_law_kept", "_law_play", "_law_times", "_law_rows", "_law_ring_right", "_law_always"] : List PySem.Str)
abbrev hk : PySem.W.Hook := hookV 6 hFa hFn hOk
def ob : PySem.W.SharedT → He.AlD × Bool × Bool := obV 6 hFa hFn hOk
theorem run (w : World) : HandSHeadRun.RunEq R (PySem.W.view R.prog [45]) hk ob 20000 names w := by
  intro os
  kernel_rfl
theorem txt {K : PySem.W.Frag} {h : Heap} {mg : Str → Option Value} (X : K.In h) (G : h.Ns mainGlobals mg) (c : He.SaysD hFa hFn K) (k : hOk K = true) : Txt K mg := by
  simp only [hOk, Bool.and_eq_true] at k
  obtain ⟨h0, h1⟩ := k
  exact {
    f_all := He.free_ok X G (c.fact 0),
    f_any := He.free_ok X G (c.fact 1),
    f_bool := He.free_ok X G (c.fact 2),
    f_enumerate := He.free_ok X G (c.fact 3),
    f_int := He.free_ok X G (c.fact 4),
    f_isinstance := He.free_ok X G (c.fact 5),
    f_len := He.free_ok X G (c.fact 6),
    f_list := He.free_ok X G (c.fact 7),
    f_min := He.free_ok X G (c.fact 8),
    f_range := He.free_ok X G (c.fact 9),
    f_sorted := He.free_ok X G (c.fact 10),
    f_str := He.free_ok X G (c.fact 11),
    f_sum := He.free_ok X G (c.fact 12),
    f_tuple := He.free_ok X G (c.fact 13),
    f_zip := He.free_ok X G (c.fact 14),
    t_is_whole := defT_of X G (c.fact 15) (lamsB_at h0 0) (c.def_ 0),
    t_is_count := defT_of X G (c.fact 16) (lamsB_at h0 1) (c.def_ 1),
    t_is_link := defT_of X G (c.fact 17) (lamsB_at h0 2) (c.def_ 2),
    t_are_links := defT_of X G (c.fact 18) (lamsB_at h0 3) (c.def_ 3),
    t_is_gap := defT_of X G (c.fact 19) (lamsB_at h0 4) (c.def_ 4),
    t_are_gaps := defT_of X G (c.fact 20) (lamsB_at h0 5) (c.def_ 5),
    t_is_network_in := defT_of X G (c.fact 21) (lamsB_at h0 6) (c.def_ 6),
    t_need_network := defT_of X G (c.fact 22) (lamsB_at h0 7) (c.def_ 7),
    t_ends_in := defT_of X G (c.fact 23) (lamsB_at h0 8) (c.def_ 8),
    t_ours_in := defT_of X G (c.fact 24) (lamsB_at h0 9) (c.def_ 9),
    t_is_word := defT_of X G (c.fact 25) (lamsB_at h0 10) (c.def_ 10),
    t_bases_in := defT_of X G (c.fact 26) (lamsB_at h0 11) (c.def_ 11),
    t_tight_in := defT_of X G (c.fact 27) (lamsB_at h0 12) (c.def_ 12),
    t_ring_from := defT_of X G (c.fact 28) (lamsB_at h0 13) (c.def_ 13),
    t_soonest_in := defT_of X G (c.fact 29) (lamsB_at h0 14) (c.def_ 14),
    t_fixed_in := defT_of X G (c.fact 30) (lamsB_at h0 15) (c.def_ 15),
    t_fixed_answer := defT_of X G (c.fact 31) (lamsB_at h0 16) (c.def_ 16),
    t_is_name_of := defT_of X G (c.fact 32) (lamsB_at h0 17) (c.def_ 17),
    t_is_ring_in := defT_of X G (c.fact 33) (lamsB_at h0 18) (c.def_ 18),
    t_are_times_in := defT_of X G (c.fact 34) (lamsB_at h0 19) (c.def_ 19),
    t_is_fixed_in := defT_of X G (c.fact 35) (lamsB_at h0 20) (c.def_ 20),
    t_is_fixed_answer := defT_of X G (c.fact 36) (lamsB_at h0 21) (c.def_ 21),
    t__law_pen := defT_of X G (c.fact 37) (lamsB_at h0 22) (c.def_ 22),
    t__law_draw := defT_of X G (c.fact 38) (lamsB_at h0 23) (c.def_ 23),
    t__law_pick := defT_of X G (c.fact 39) (lamsB_at h0 24) (c.def_ 24),
    t__law_shuffled := defT_of X G (c.fact 40) (lamsB_at h0 25) (c.def_ 25),
    t__law_network := defT_of X G (c.fact 41) (lamsB_at h0 26) (c.def_ 26),
    t__law_ours := defT_of X G (c.fact 42) (lamsB_at h0 27) (c.def_ 27),
    t__law_lengths := defT_of X G (c.fact 43) (lamsB_at h0 28) (c.def_ 28),
    t__law_kept := defT_of X G (c.fact 44) (lamsB_at h0 29) (c.def_ 29),
    t__law_play := defT_of X G (c.fact 45) (lamsB_at h0 30) (c.def_ 30),
    t__law_times := defT_of X G (c.fact 46) (lamsB_at h0 31) (c.def_ 31),
    t__law_rows := defT_of X G (c.fact 47) (lamsB_at h0 32) (c.def_ 32),
    t__law_ring_right := defT_of X G (c.fact 48) (lamsB_at h0 33) (c.def_ 33),
    t__law_always := defT_of X G (c.fact 49) (lamsB_at h0 34) (c.def_ 34),
    t_law := defT_of X G (c.fact 50) (lamsB_at h0 35) (c.def_ 35),
    k_MOST_NUMBER := He.int_ok X G (c.fact 51),
    k_MOST_LINKS := He.int_ok X G (c.fact 52),
    k_MOST_GAPS := He.int_ok X G (c.fact 53),
    k_MOST_MOMENTS := He.int_ok X G (c.fact 54),
    c_BadNetwork := clsB_ok X G h1 (c.def_ 36) }
theorem holds (math : ∀ ns : List Int, ns.length ≤ 63 → ∃ st, F_law [.fz (ns.map .int)] [] = .ok (.bl true) st) : PySem.Challenge.rw_timesindoubt_k15_whole_fixed_times.Holds := by
  w_on; o_law
  refine HandSHeadRun.head_any (r := R) (q := PySem.W.view R.prog [45]) (H := hk) (ob := ob) (M := 20000) (loose := names) (d := HandSHeadRun.topDef R.prog 45) (kwd := []) obV_eq
    (by kernel_rfl) (fun s => by kernel_rfl) run (by kernel_rfl) (by kernel_rfl) (by kernel_rfl) (by rfl) (by first | assumption | decide +kernel) (by decide +kernel) ⟨rfl, rfl, rfl, rfl, rfl, by decide +kernel⟩ ?hw ?hc
  case hw => w_witness2
  case hc =>
    refine walk_ofV (l := PySem.Challenge.rw_timesindoubt_k15_whole_fixed_times) (n := 63) (k := 10) (x := "script") rfl (by decide) (by kernel_rfl) ⟨rfl, by decide, by decide⟩ ?F
    intro w mg fa h Y G hmg0
    obtain ⟨K, KX, c, k, tf⟩ := Y
    have hmg : mg ("law" : PySem.Str) = some (.ref fa) := by
      have e : (HandSHeadRun.topDef R.prog 45).name = ("law" : PySem.Str) := by kernel_rfl
      rw [← e]
      exact hmg0
    have T := txt KX G c k
    exact law_ofD (x := "script") (T.t_law) hmg (F := F_law) KX (fun _ _ _ _ _ _ us hl => match us, hl with | [_], _ => rfl) math tf fun base B => d_law (P := (PySem.Challenge.rw_timesindoubt_k15_whole_fixed_times).prog) (w := w) (base := base) T B
end G15
set_option maxHeartbeats 4000000
namespace VI
open PySem PySem.Spec PyProof.Rows L2

/-! ### running a reading -/
section
variable (ρ : Env) (st : Mem) (m n : ME) (ms : List ME) (f : F2) (g : F1) (h : FL) (s u : MS) (a b : MB) (i j : Nat) (d : D)
@[simp] theorem ap_var (h : ρ[i]? = some (some d)) : mVar i ρ st = .ok d st := by simp only [mVar, h]
@[simp] theorem ap_c : mC d ρ st = .ok d st := rfl
@[simp] theorem ap_m1 : m1 g m ρ st = (m ρ st).bind g := rfl
@[simp] theorem ap_m2 : m2 f m n ρ st = (m ρ st).bind fun d st1 => (n ρ st1).bind fun e st2 => f d e st2 := rfl
@[simp] theorem ap_mF : mF h ms ρ st = (mArgs ms ρ st).bind h := rfl
@[simp] theorem ap_args0 : mArgs [] ρ st = .ok [] st := rfl
@[simp] theorem ap_args1 : mArgs (m :: ms) ρ st = (m ρ st).bind fun d st1 => (mArgs ms ρ st1).bind fun ds st2 => .ok (d :: ds) st2 := rfl
@[simp] theorem ap_f1 : f1 g [d] st = g d st := rfl
@[simp] theorem ap_f2 (e : D) : f2 f [d, e] st = f d e st := rfl
@[simp] theorem ap_seq : sSeq s u ρ st = (s ρ st).seq u := rfl
@[simp] theorem ap_nil : sNil ρ st = .nx ρ st := rfl
@[simp] theorem ap_set : sSet i m ρ st = (m ρ st).toS ρ fun d st1 => .nx (ρ.set i (some d)) st1 := rfl
@[simp] theorem ap_if : sIf a s u ρ st = (a ρ st).toS ρ fun b st1 => if b = true then s ρ st1 else u ρ st1 := rfl
@[simp] theorem ap_ret : sRet m ρ st = (m ρ st).toS ρ fun d st1 => .rt d st1 := rfl
@[simp] theorem ap_drop : sDrop m ρ st = (m ρ st).toS ρ fun _ st1 => .nx ρ st1 := rfl
@[simp] theorem ap_asB : asB m ρ st = (m ρ st).bind VI.resB := rfl
@[simp] theorem ap_asT : asT m ρ st = (m ρ st).bind resT := rfl
@[simp] theorem ap_resB (k : Bool) : VI.resB (.bl k) st = .ok k st := rfl
@[simp] theorem ap_resT (k : Bool) : resT (.bl k) st = .ok k st := rfl
@[simp] theorem ap_and : mAnd a b ρ st = (a ρ st).bind fun x st1 => if x = true then b ρ st1 else .ok false st1 := rfl
@[simp] theorem ap_or : mOr a b ρ st = (a ρ st).bind fun x st1 => if x = true then .ok true st1 else b ρ st1 := rfl
@[simp] theorem ap_not : mNot a ρ st = (a ρ st).bind fun x st1 => .ok (!x) st1 := rfl
@[simp] theorem ap_tup : mTup ms ρ st = (mArgs ms ρ st).bind fun ds st1 => .ok (.tup ds) st1 := rfl
@[simp] theorem ap_lst (mk : List D → Mem → Res D) : mLst mk ms ρ st = (mArgs ms ρ st).bind mk := rfl
@[simp] theorem ap_asg (gg : MG) : sAsg m gg ρ st = (m ρ st).toS ρ fun d st1 => match gg d ρ st1 with
  | .nx ρ1 st2 => .nx ρ1 st2
  | _ => .bad := rfl
@[simp] theorem ap_gSub : gSubD m n d ρ st = (match m ρ st with
  | .ok o st1 => match n ρ st1 with
    | .ok i st2 => match setD o i d st2 with
      | some st3 => .nx ρ st3
      | none => .bad
    | _ => .bad
  | _ => .bad) := rfl
@[simp] theorem ap_gNm : gNm i d ρ st = .nx (ρ.set i (some d)) st := rfl
@[simp] theorem ap_par : sPar i j m n ρ st = (m ρ st).toS ρ fun d st1 => (n ρ st1).toS ρ fun e st2 => .nx ((ρ.set i (some d)).set j (some e)) st2 := rfl
@[simp] theorem ap_mIf : mIf a m n ρ st = (a ρ st).bind fun b st1 => if b = true then m ρ st1 else n ρ st1 := rfl
@[simp] theorem ap_mkF (ds : List D) : mkF ds st = .ok (.lst ds) st := rfl
@[simp] theorem ap_mkN (ds : List D) : mkN ds st = .ok (.loc st.length) (st ++ [.lst ds]) := rfl
end
/-- what a def hands back -/
def endS (r : RS) : Res D := match r with
  | .nx _ st' => .ok .non st'
  | .rt d st' => .ok d st'
  | .exc e _ st' => .exc e st'
  | _ => .bad
@[simp] theorem endS_nx (ρ : Env) (st : Mem) : endS (.nx ρ st) = .ok .non st := rfl
@[simp] theorem endS_rt (d : D) (st : Mem) : endS (.rt d st) = .ok d st := rfl
@[simp] theorem endS_exc (e : Ex) (ρ : Env) (st : Mem) : endS (.exc e ρ st) = .exc e st := rfl
theorem bodyF_eq (m : MS) (n : Nat) (ds : List D) (st : Mem) : bodyF m n ds st = endS (m (startE n ds) st) := rfl

/-! ### the pen -/
structure Pen where
  cells : List Int
  a : Int
  dg : Int
  ct : Int
  fold : Int
def penK (p : Pen) : List (Key × D) := [(.inr "cells", .lst (p.cells.map .int)), (.inr "at", .int p.a), (.inr "digits", .int p.dg), (.inr "count", .int p.ct), (.inr "fold", .int p.fold)]
def penC (p : Pen) : Cell := .dK (penK p)
section
variable {n : Nat} {st : Mem} {p : Pen}
theorem pen_v1 (p : Pen) : valD (penK p) (.inr "cells") = some (.lst (p.cells.map .int)) := rfl
theorem pen_v2 (p : Pen) : valD (penK p) (.inr "at") = some (.int p.a) := rfl
theorem pen_v3 (p : Pen) : valD (penK p) (.inr "digits") = some (.int p.dg) := rfl
theorem pen_v4 (p : Pen) : valD (penK p) (.inr "count") = some (.int p.ct) := rfl
theorem pen_v5 (p : Pen) : valD (penK p) (.inr "fold") = some (.int p.fold) := rfl
theorem pen_p2 (p : Pen) (v : Int) : putD (penK p) (.inr "at") (.int v) = penK { p with a := v } := rfl
theorem pen_p3 (p : Pen) (v : Int) : putD (penK p) (.inr "digits") (.int v) = penK { p with dg := v } := rfl
theorem pen_p4 (p : Pen) (v : Int) : putD (penK p) (.inr "count") (.int v) = penK { p with ct := v } := rfl
theorem pen_p5 (p : Pen) (v : Int) : putD (penK p) (.inr "fold") (.int v) = penK { p with fold := v } := rfl
theorem ix_pen (h : st[n]? = some (penC p)) {k : Str} {v : D} (e : valD (penK p) (.inr k) = some v) : ixD (.loc n) (.str k) st = .ok v st := by
  unfold ixD
  simp only [seqD, h, penC, getD', keyD, Option.map_some, e]
theorem set_pen (h : st[n]? = some (penC p)) {k : Str} {v : D} {q : Pen} (e : putD (penK p) (.inr k) v = penK q) : setD (.loc n) (.str k) v st = some (st.set n (penC q)) := by
  have hl : (penK p).length < LINE := by show 5 < LINE; decide
  unfold setD
  simp only [h, penC, keyD, Option.map_some, e, if_pos hl]
theorem pen_at (h : st[n]? = some (penC p)) (q : Pen) : (st.set n (penC q))[n]? = some (penC q) := by
  have hl : n < st.length := (List.getElem?_eq_some_iff.mp h).1
  simp [hl]
end
/-- what a pen must be -/
structure PenOk (B M : Int) (p : Pen) : Prop where
  a0 : 0 ≤ p.a
  dg : 0 ≤ p.dg
  c0 : 0 ≤ p.ct
  cB : p.ct ≤ B
  f0 : 0 ≤ p.fold
  fM : p.fold ≤ M
/-! ### running -/
section
variable {ρ : Env} {st st' : Mem} {d e : D} {m n : ME} {f : F2} {g : F1}
theorem r_var {i : Nat} (h : ρ[i]? = some (some d)) : mVar i ρ st = .ok d st := by simp only [mVar, h]
theorem r_c : mC d ρ st = .ok d st := rfl
end
section
variable {n : Nat} {st : Mem} {q : Pen}
theorem ixS (hl : n < st.length) {k : Str} {v : D} (e : valD (penK q) (.inr k) = some v) : ixD (.loc n) (.str k) (st.set n (penC q)) = .ok v (st.set n (penC q)) := ix_pen (by simp [hl]) e
theorem ixS_cells (hl : n < st.length) : ixD (.loc n) (.str "cells") (st.set n (penC q)) = .ok (.lst (q.cells.map .int)) (st.set n (penC q)) := ixS hl rfl
theorem ixS_at (hl : n < st.length) : ixD (.loc n) (.str "at") (st.set n (penC q)) = .ok (.int q.a) (st.set n (penC q)) := ixS hl rfl
theorem ixS_digits (hl : n < st.length) : ixD (.loc n) (.str "digits") (st.set n (penC q)) = .ok (.int q.dg) (st.set n (penC q)) := ixS hl rfl
theorem ixS_count (hl : n < st.length) : ixD (.loc n) (.str "count") (st.set n (penC q)) = .ok (.int q.ct) (st.set n (penC q)) := ixS hl rfl
theorem ixS_fold (hl : n < st.length) : ixD (.loc n) (.str "fold") (st.set n (penC q)) = .ok (.int q.fold) (st.set n (penC q)) := ixS hl rfl
theorem setS (hl : n < st.length) {k : Str} {v : D} {r : Pen} (e : putD (penK q) (.inr k) v = penK r) : setD (.loc n) (.str k) v (st.set n (penC q)) = some (st.set n (penC r)) := by
  rw [set_pen (by simp [hl]) e, List.set_set]
theorem setS_at (hl : n < st.length) {v : Int} : setD (.loc n) (.str "at") (.int v) (st.set n (penC q)) = some (st.set n (penC { q with a := v })) := setS hl rfl
theorem setS_digits (hl : n < st.length) {v : Int} : setD (.loc n) (.str "digits") (.int v) (st.set n (penC q)) = some (st.set n (penC { q with dg := v })) := setS hl rfl
theorem setS_count (hl : n < st.length) {v : Int} : setD (.loc n) (.str "count") (.int v) (st.set n (penC q)) = some (st.set n (penC { q with ct := v })) := setS hl rfl
theorem setS_fold (hl : n < st.length) {v : Int} : setD (.loc n) (.str "fold") (.int v) (st.set n (penC q)) = some (st.set n (penC { q with fold := v })) := setS hl rfl
theorem set_self (h : st[n]? = some (penC q)) : st.set n (penC q) = st := by
  obtain ⟨hl, e⟩ := List.getElem?_eq_some_iff.mp h
  rw [← e]; exact List.set_getElem_self hl
/-- the i-th cell -/
theorem ix_ints {ns : List Int} {i : Int} (h0 : 0 ≤ i) (h1 : i < ns.length) : ∃ c, ns[i.toNat]? = some c ∧ ∀ st : Mem, ixD (.lst (ns.map .int)) (.int i) st = .ok (.int c) st := by
  have hi : i.toNat < ns.length := by omega
  refine ⟨ns[i.toNat], by simp [hi], fun st => ?_⟩
  unfold ixD
  simp only [seqD, atI, ixN, List.length_map, if_pos h0, if_pos h1, Option.bind_some]
  simp [hi]
end
section
variable {d e : D} {st : Mem} {i j : Int}
theorem addD_int : addD (.int i) (.int j) st = .ok (.int (i + j)) st := rfl
theorem subD_int : subD (.int i) (.int j) st = .ok (.int (i - j)) st := rfl
theorem mulD_int {mk : List D → Mem → Res D} (h : small64 i = true ∨ small64 j = true) : mulD mk (.int i) (.int j) st = .ok (.int (i * j)) st := by
  unfold mulD
  rcases h with h | h <;> simp [h]
theorem modD_int (h : 0 < j) : modD (.int i) (.int j) st = .ok (.int (i % j)) st := by simp [modD, h]
theorem fdivD_int (h : 0 < j) (h2 : j < 1073741824) : fdivD (.int i) (.int j) st = .ok (.int (i / j)) st := by simp [fdivD, h, h2]
theorem powD_int (h : 0 ≤ j) (h2 : j ≤ 1000) (h3 : small64 i = true) : powD (.int i) (.int j) st = .ok (.int (i ^ j.toNat)) st := by simp [powD, h, h2, h3]
theorem eqD_int : eqD (.int i) (.int j) st = .ok (.bl (i == j)) st := by simp [eqD, topD, okD, eqvD]
theorem ltD_int : ltD (.int i) (.int j) st = .ok (.bl (decide (i < j))) st := rfl
theorem gtD_int : gtD (.int i) (.int j) st = .ok (.bl (decide (j < i))) st := rfl
theorem geD_int : geD (.int i) (.int j) st = .ok (.bl (decide (j ≤ i))) st := rfl
theorem intD_int : intD (.int i) st = .ok (.int i) st := rfl
theorem small64_of (h : -18446744073709551616 < i) (h2 : i < 18446744073709551616) : small64 i = true := by
  simp only [small64, decide_eq_true_eq]
  by_cases h0 : i.natAbs = 0
  · rw [h0]; decide
  · rw [Nat.log2_lt h0]
    show i.natAbs < 18446744073709551616
    omega
theorem lenD_lst {xs : List D} (h : xs.length ≤ LINE) : lenD (.lst xs) st = .ok (.int (xs.length : Nat)) st := by unfold lenD; simp [seqD, h]
end
theorem lenS_cells {st : Mem} {q : Pen} : lenD (.lst (q.cells.map .int)) st = .ok (.int (q.cells.length : Nat)) st := by
  unfold lenD; simp [seqD]
/-! ### loops, comprehensions -/
theorem forL_inv {ds : List D} {f : D → Env → Mem → RS} {I : Nat → Env → Mem → Prop} (hs : ∀ i d ρ st, ds[i]? = some d → I i ρ st → ∃ ρ' st', (f d ρ st = .nx ρ' st' ∨ f d ρ st = .ct ρ' st') ∧ I (i + 1) ρ' st') {ρ : Env} {st : Mem} (h0 : I 0 ρ st) :
    ∃ ρ' st', forL ds f ρ st = .nx ρ' st' ∧ I ds.length ρ' st' := by
  have key : ∀ (es : List D) (k : Nat) (ρ : Env) (st : Mem), ds.drop k = es → I k ρ st → ∃ ρ' st', forL es f ρ st = .nx ρ' st' ∧ I (k + es.length) ρ' st' := by
    intro es
    induction es with
    | nil => intro k ρ st e h; exact ⟨ρ, st, rfl, h⟩
    | cons d es ih =>
      intro k ρ st e h
      have hd : ds[k]? = some d := by
        have := congrArg (fun l : List D => l[0]?) e
        simpa using this
      obtain ⟨ρ1, st1, hf, h1⟩ := hs k d ρ st hd h
      have e1 : ds.drop (k + 1) = es := by
        have := congrArg List.tail e
        simpa using this
      obtain ⟨ρ2, st2, h2, h3⟩ := ih (k + 1) ρ1 st1 e1 h1
      refine ⟨ρ2, st2, ?_, by rw [List.length_cons, show k + (es.length + 1) = k + 1 + es.length by omega]; exact h3⟩
      rcases hf with hf | hf <;> simp only [forL, hf, h2]
  obtain ⟨ρ', st', h1, h2⟩ := key ds 0 ρ st (by simp) h0
  exact ⟨ρ', st', h1, by simpa using h2⟩
theorem lcL_pure {st : Mem} {f : D → Mem → Res (Option D)} {F : D → Option D} : ∀ {ds : List D} {acc : List D}, (∀ d ∈ ds, ∀ acc, f d (st ++ [.lst acc]) = .ok (F d) (st ++ [.lst acc])) → acc.length + ds.length ≤ 16000000 →
    lcL st.length ds f (st ++ [.lst acc]) = .ok () (st ++ [.lst (acc ++ ds.filterMap F)])
  | [], acc, _, _ => by simp [lcL]
  | d :: ds, acc, h, hl => by
    have e := h d List.mem_cons_self acc
    have ih : ∀ acc', acc'.length + ds.length ≤ 16000000 → lcL st.length ds f (st ++ [.lst acc']) = .ok () (st ++ [.lst (acc' ++ ds.filterMap F)]) := fun acc' hl' => lcL_pure (fun d hd acc => h d (List.mem_cons_of_mem _ hd) acc) hl'
    simp only [List.length_cons] at hl
    simp only [lcL, e, Res.ok_bind]
    cases q : F d with
    | none =>
      simp only [pushL, Res.ok_bind]
      rw [ih acc (by omega)]
      simp [q]
    | some y =>
      have g : (st ++ [Cell.lst acc])[st.length]? = some (.lst acc) := by simp
      have hL : acc.length < LINE := by show acc.length < 16777216; omega
      simp only [pushL, g, if_pos hL, Res.ok_bind]
      have e2 : (st ++ [Cell.lst acc]).set st.length (.lst (acc ++ [y])) = st ++ [.lst (acc ++ [y])] := by simp
      rw [e2, ih (acc ++ [y]) (by simp; omega)]
      simp [q]
section
variable {mi : ML} {g : MG} {t : MB} {m : ME} {vs : List Nat} {ρ : Env} {st : Mem} {ds : List D} {F : D → Option D}
theorem belowL_mem {n : Nat} : ∀ {ds : List D}, (∀ d ∈ ds, belowD n d = true) → belowL n ds = true
  | [], _ => rfl
  | d :: ds, h => by
    simp only [belowL, Bool.and_eq_true]
    exact ⟨h d List.mem_cons_self, belowL_mem fun d hd => h d (List.mem_cons_of_mem _ hd)⟩
/-- a comprehension that changes no memory -/
theorem lc_pure (hi : mi ρ st = .ok ds st) (hs : ∀ d ∈ ds, ∀ acc, stepL g t m vs ρ d (st ++ [.lst acc]) = .ok (F d) (st ++ [.lst acc])) (hl : ds.length ≤ 16000000) (hb : ∀ d ∈ ds, ∀ y, F d = some y → belowD st.length y = true) :
    mLC finF mi g t m vs ρ st = .ok (.lst (ds.filterMap F)) st := by
  unfold mLC
  rw [hi, Res.ok_bind, lcL_pure hs (by simpa using hl), Res.ok_bind]
  unfold finF
  have g : (st ++ [Cell.lst ([] ++ ds.filterMap F)])[st.length]? = some (.lst (ds.filterMap F)) := by simp
  have b : belowL st.length (ds.filterMap F) = true := belowL_mem fun y hy => by
    obtain ⟨d, hd, e⟩ := List.mem_filterMap.mp hy
    exact hb d hd y e
  rw [g]
  simp [b, clean]
end
end VI
/-! plain lists of ints: ranges, boxes, their order -/
namespace Pl
def irange (lo hi : Int) : List Int := (List.range (hi - lo).toNat).map fun i => lo + ((i : Nat) : Int)
theorem mem_irange {lo hi x : Int} : x ∈ irange lo hi ↔ lo ≤ x ∧ x < hi := by
  simp only [irange, List.mem_map, List.mem_range]
  constructor
  · rintro ⟨i, h, rfl⟩; omega
  · rintro ⟨h1, h2⟩; exact ⟨(x - lo).toNat, by omega, by omega⟩
theorem irange_lt (lo hi : Int) : (irange lo hi).Pairwise (· < ·) := by
  unfold irange
  rw [List.pairwise_map]
  exact List.Pairwise.imp (fun h => by omega) List.pairwise_lt_range
theorem length_irange (lo hi : Int) : (irange lo hi).length = (hi - lo).toNat := by simp [irange]
def ext1 (F : List (List Int)) (r : Int × Int) : List (List Int) := F.flatMap fun row => (irange r.1 r.2).map fun i => row ++ [i]
def box (F : List (List Int)) (rs : List (Int × Int)) : List (List Int) := rs.foldl ext1 F
def inB : List Int → List (Int × Int) → Prop
  | [], [] => True
  | x :: xs, r :: rs => (r.1 ≤ x ∧ x < r.2) ∧ inB xs rs
  | _, _ => False
theorem inB_len : ∀ {xs : List Int} {rs : List (Int × Int)}, inB xs rs → xs.length = rs.length
  | [], [], _ => rfl
  | _ :: _, _ :: _, h => by simp [inB_len h.2]
  | [], _ :: _, h => h.elim
  | _ :: _, [], h => h.elim
theorem mem_box {t : List Int} : ∀ {rs : List (Int × Int)} {F : List (List Int)}, t ∈ box F rs ↔ ∃ p ∈ F, ∃ u, t = p ++ u ∧ inB u rs
  | [], F => by
    constructor
    · intro h; exact ⟨t, h, [], by simp, trivial⟩
    · rintro ⟨p, hp, u, rfl, hu⟩
      cases u with
      | nil => simpa [box] using hp
      | cons _ _ => exact hu.elim
  | r :: rs, F => by
    show t ∈ box (ext1 F r) rs ↔ _
    rw [mem_box]
    constructor
    · rintro ⟨q, hq, u, rfl, hu⟩
      simp only [ext1, List.mem_flatMap, List.mem_map] at hq
      obtain ⟨p, hp, i, hi, rfl⟩ := hq
      exact ⟨p, hp, i :: u, by simp, mem_irange.mp hi, hu⟩
    · rintro ⟨p, hp, u, rfl, hu⟩
      cases u with
      | nil => exact hu.elim
      | cons i u =>
        refine ⟨p ++ [i], ?_, u, by simp, hu.2⟩
        simp only [ext1, List.mem_flatMap, List.mem_map]
        exact ⟨p, hp, i, mem_irange.mpr hu.1, rfl⟩
theorem lt_app : ∀ {a b : List Int} (c d : List Int), a < b → a.length = b.length → a ++ c < b ++ d
  | [], [], _, _, h, _ => absurd h (List.lt_irrefl [])
  | x :: a, y :: b, c, d, h, l => by
    rw [List.cons_lt_cons_iff] at h
    simp only [List.cons_append, List.cons_lt_cons_iff]
    rcases h with h | ⟨rfl, h⟩
    · exact .inl h
    · exact .inr ⟨rfl, lt_app c d h (by simpa using l)⟩
  | [], _ :: _, _, _, _, l => by simp at l
  | _ :: _, [], _, _, _, l => by simp at l
theorem lt_app_same : ∀ (a : List Int) {c d : List Int}, c < d → a ++ c < a ++ d
  | [], _, _, h => h
  | x :: a, c, d, h => by
    rw [List.cons_append, List.cons_append, List.cons_lt_cons_iff]
    exact .inr ⟨rfl, lt_app_same a h⟩
theorem ext1_sorted {F : List (List Int)} {r : Int × Int} {n : Nat} (h : F.Pairwise (· < ·)) (hl : ∀ p ∈ F, p.length = n) : (ext1 F r).Pairwise (· < ·) ∧ ∀ p ∈ ext1 F r, p.length = n + 1 := by
  constructor
  · unfold ext1
    rw [List.pairwise_flatMap]
    refine ⟨fun a _ => ?_, ?_⟩
    · rw [List.pairwise_map]
      exact (irange_lt _ _).imp fun h => lt_app_same a (by rw [List.cons_lt_cons_iff]; exact .inl h)
    · refine List.Pairwise.imp_of_mem (fun {a b} ha hb hab => ?_) h
      intro x hx y hy
      simp only [List.mem_map] at hx hy
      obtain ⟨i, _, rfl⟩ := hx
      obtain ⟨j, _, rfl⟩ := hy
      exact lt_app _ _ hab (by rw [hl a ha, hl b hb])
  · intro p hp
    simp only [ext1, List.mem_flatMap, List.mem_map] at hp
    obtain ⟨q, hq, i, _, rfl⟩ := hp
    simp [hl q hq]
theorem box_sorted : ∀ {rs : List (Int × Int)} {F : List (List Int)} {n : Nat}, F.Pairwise (· < ·) → (∀ p ∈ F, p.length = n) → (box F rs).Pairwise (· < ·)
  | [], _, _, h, _ => h
  | r :: rs, F, n, h, hl => by
    have := ext1_sorted (r := r) h hl
    exact box_sorted (rs := rs) this.1 this.2
theorem nodup_of_lt {l : List (List Int)} (h : l.Pairwise (· < ·)) : l.Nodup := h.imp fun {a b} hab e => by subst e; exact absurd hab (List.lt_irrefl _)
theorem length_box {rs : List (Int × Int)} : ∀ {F : List (List Int)}, (box F rs).length = F.length * (rs.map fun r => (r.2 - r.1).toNat).foldl (· * ·) 1 := by
  have key : ∀ (l : List Nat) (a : Nat), l.foldl (· * ·) a = a * l.foldl (· * ·) 1 := by
    intro l
    induction l with
    | nil => intro a; simp
    | cons x l ih => intro a; simp only [List.foldl_cons]; rw [ih, ih (1 * x)]; simp [Nat.mul_assoc]
  induction rs with
  | nil => intro F; simp [box]
  | cons r rs ih =>
    intro F
    show (box (ext1 F r) rs).length = _
    rw [ih]
    have : (ext1 F r).length = F.length * (r.2 - r.1).toNat := by
      unfold ext1
      induction F with
      | nil => simp
      | cons a F ihF => simp only [List.flatMap_cons, List.length_append, List.length_map, length_irange, List.length_cons, ihF]; rw [Nat.add_mul, Nat.one_mul, Nat.add_comm]
    rw [this, List.map_cons, List.foldl_cons, key _ (1 * _)]
    simp [Nat.mul_assoc]
theorem ext1_len (F : List (List Int)) (r : Int × Int) : (ext1 F r).length = F.length * (r.2 - r.1).toNat := by
  have := length_box (rs := [r]) (F := F)
  simpa [box] using this
theorem box_le {K : Nat} : ∀ {rs : List (Int × Int)} {F : List (List Int)}, (∀ r ∈ rs, (r.2 - r.1).toNat ≤ K) → (box F rs).length ≤ F.length * K ^ rs.length
  | [], F, _ => by simp [box]
  | r :: rs, F, h => by
    show (box (ext1 F r) rs).length ≤ _
    refine Nat.le_trans (box_le fun x hx => h x (List.mem_cons_of_mem _ hx)) ?_
    rw [ext1_len, List.length_cons, Nat.pow_succ, Nat.mul_comm (K ^ rs.length) K, ← Nat.mul_assoc]
    exact Nat.mul_le_mul_right _ (Nat.mul_le_mul_left _ (h r List.mem_cons_self))
theorem irange_cons {k hi : Int} (h : k < hi) : irange k hi = k :: irange (k + 1) hi := by
  unfold irange
  rw [show (hi - k).toNat = (hi - (k + 1)).toNat + 1 by omega, List.range_succ_eq_map]
  simp [List.map_map, Function.comp_def]
  intro a _
  omega
theorem filter_ext {α : Type} {p q : α → Bool} {l : List α} (h : ∀ a ∈ l, p a = q a) : l.filter p = l.filter q := List.filter_congr h
theorem nodup_map_inj {α β : Type} {f : α → β} : ∀ {l : List α}, l.Nodup → (∀ a ∈ l, ∀ b ∈ l, f a = f b → a = b) → (l.map f).Nodup
  | [], _, _ => List.nodup_nil
  | a :: l, h, hi => by
    rw [List.nodup_cons] at h
    rw [List.map_cons, List.nodup_cons]
    refine ⟨fun z => ?_, nodup_map_inj h.2 fun x hx y hy => hi x (List.mem_cons_of_mem _ hx) y (List.mem_cons_of_mem _ hy)⟩
    obtain ⟨b, hb, e⟩ := List.mem_map.mp z
    have := hi a List.mem_cons_self b (List.mem_cons_of_mem _ hb) e.symm
    subst this
    exact h.1 hb
theorem nodup_prod {α β : Type} {xs : List α} {ys : List β} (hx : xs.Nodup) (hy : ys.Nodup) : (xs.flatMap fun x => ys.map fun y => (x, y)).Nodup := by
  unfold List.Nodup
  rw [List.pairwise_flatMap]
  refine ⟨fun a _ => ?_, ?_⟩
  · rw [List.pairwise_map]
    exact hy.imp fun h e => h (Prod.mk.inj e).2
  · exact hx.imp fun {a b} h x hx' y hy' e => by
      obtain ⟨_, _, rfl⟩ := List.mem_map.mp hx'
      obtain ⟨_, _, rfl⟩ := List.mem_map.mp hy'
      exact h (Prod.mk.inj e).1
/-- two lists of the same, the second in order: sorted, the first is the second -/
theorem sort_eq {le : List Int → List Int → Bool} (hle : ∀ a b, le a b = true ↔ a ≤ b) {xs ys : List (List Int)} (hp : xs.Perm ys) (hy : ys.Pairwise (· ≤ ·)) : xs.mergeSort le = ys := by
  have t : ∀ a b c, le a b = true → le b c = true → le a c = true := fun a b c h1 h2 => (hle _ _).mpr (List.le_trans ((hle _ _).mp h1) ((hle _ _).mp h2))
  have tot : ∀ a b, (le a b || le b a) = true := fun a b => by
    rw [Bool.or_eq_true, hle, hle]
    exact List.le_total a b
  refine List.Perm.eq_of_pairwise (le := fun a b => le a b = true) (fun a b _ _ h1 h2 => List.le_antisymm ((hle _ _).mp h1) ((hle _ _).mp h2)) (List.pairwise_mergeSort t tot xs) (hy.imp fun h => (hle _ _).mpr h) ((List.mergeSort_perm xs le).trans hp)
theorem le_of_lt {l : List (List Int)} (h : l.Pairwise (· < ·)) : l.Pairwise (· ≤ ·) := h.imp fun h => List.le_of_lt h
end Pl
set_option maxHeartbeats 4000000
/-! running readings: more of it -/
namespace VI
open PySem PySem.Spec PyProof.Rows L2

section
variable (ρ : Env) (st : Mem) (m n p q : ME) (f g h : F2) (a b : MB) (s u : MS)
@[simp] theorem ap_ch : mCh f g m n p ρ st = (m ρ st).bind fun x st1 => (n ρ st1).bind fun y st2 => (f x y st2).bind fun z st3 => match z with
  | .bl true => (p ρ st3).bind fun w st4 => g y w st4
  | .bl false => .ok (.bl false) st3
  | _ => .bad := rfl
@[simp] theorem ap_ch3 : mCh3 f g h m n p q ρ st = (m ρ st).bind fun x st1 => (n ρ st1).bind fun y st2 => (f x y st2).bind fun z st3 => chk z st3 fun st4 => (p ρ st4).bind fun w st5 => (g y w st5).bind fun z2 st6 => chk z2 st6 fun st7 => (q ρ st7).bind fun v st8 => h w v st8 := rfl
@[simp] theorem chk_t (k : Mem → Res D) : chk (.bl true) st k = k st := rfl
@[simp] theorem chk_f (k : Mem → Res D) : chk (.bl false) st k = .ok (.bl false) st := rfl
@[simp] theorem ap_notV : mNotV m ρ st = (m ρ st).bind fun d st1 => match truD d st1 with
  | some b => .ok (.bl (!b)) st1
  | none => .bad := rfl
@[simp] theorem ap_andV : mAndV m n ρ st = (m ρ st).bind fun d st1 => match truD d st1 with
  | some true => n ρ st1
  | some false => .ok d st1
  | none => .bad := rfl
@[simp] theorem ap_orV : mOrV m n ρ st = (m ρ st).bind fun d st1 => match truD d st1 with
  | some true => .ok d st1
  | some false => n ρ st1
  | none => .bad := rfl
@[simp] theorem tru_bl (k : Bool) : truD (.bl k) st = some k := rfl
@[simp] theorem ap_it : mIt m ρ st = (m ρ st).bind fun d st1 => match frzD d with
  | some xs => .ok xs st1
  | none => .bad := rfl
@[simp] theorem frz_tup (xs : List D) : frzD (.tup xs) = some xs := rfl
@[simp] theorem frz_lst (xs : List D) : frzD (.lst xs) = some xs := rfl
@[simp] theorem frz_fz (xs : List D) : frzD (.fz xs) = some xs := rfl
@[simp] theorem ap_yes : mYes ρ st = .ok true st := rfl
@[simp] theorem ap_retN : sRetN ρ st = .rt .non st := rfl
@[simp] theorem ap_raise (c : Str) (fs : List Str) (ms : List ME) : sRaise c fs ms ρ st = (mArgs ms ρ st).toS ρ fun ds st1 => if ds.length = fs.length then .exc ⟨c, (fs.zip ds).reverse⟩ ρ st1 else .bad := rfl
@[simp] theorem ap_zip (ms : List ME) : mZip ms ρ st = (mArgs ms ρ st).bind fun ds st1 => match ds with
  | [d, e] => (match frzD d, frzD e with
    | some xs, some ys => .ok (zipD xs ys) st1
    | _, _ => .bad)
  | _ => .bad := rfl
@[simp] theorem ap_enum : mEnum m ρ st = (m ρ st).bind fun d st1 => match frzD d with
  | some xs => .ok (enumD xs) st1
  | none => .bad := by
  unfold mEnum
  simp only [ap_args1, ap_args0, Res.ok_bind, Res.bind_assoc] <;> rfl
@[simp] theorem ap_slice (mk : List D → Mem → Res D) (lo hi : MO) : mSlice mk m lo hi ρ st = (m ρ st).bind fun d st1 => (lo ρ st1).bind fun l st2 => (hi ρ st2).bind fun h st3 => sliceD mk d l h st3 := rfl
@[simp] theorem ap_nopart : mNoPart ρ st = .ok none st := rfl
@[simp] theorem ap_part : mPart m ρ st = (m ρ st).bind resI := rfl
@[simp] theorem resI_int (i : Int) : resI (.int i) st = .ok (some i) st := rfl
@[simp] theorem slice_tup (mk : List D → Mem → Res D) (xs : List D) (lo hi : Option Int) : sliceD mk (.tup xs) lo hi st = .ok (.tup (cutD xs lo hi)) st := rfl
@[simp] theorem slice_lst (mk : List D → Mem → Res D) (xs : List D) (lo hi : Option Int) : sliceD mk (.lst xs) lo hi st = mk (cutD xs lo hi) st := rfl
@[simp] theorem ap_rng1 : mRng1 m ρ st = (m ρ st).bind fun d st1 => match d with
  | .int n => if big62 n = true then .ok (rangeL 0 n.toNat) st1 else .bad
  | _ => .bad := rfl
@[simp] theorem ap_for (mi : ML) (gg : MG) : sFor mi gg s ρ st = (mi ρ st).toS ρ fun ds st1 => forL ds (stepF gg s) ρ st1 := rfl
@[simp] theorem ap_bm (T : String) (fm : FM) (ms : List ME) : mBM T fm m ms ρ st = (m ρ st).bind fun o st1 => if isT T o st1 = true then (mArgs ms ρ st1).bind fun ds st2 => fm o ds st2 else .bad := rfl
@[simp] theorem ap_dropT : sDropT m ρ st = (m ρ st).toS ρ fun _ st1 => tidyR st ρ st1 := rfl
@[simp] theorem ap_brk : sBreak ρ st = .bk ρ st := rfl
@[simp] theorem ap_cnt : sCont ρ st = .ct ρ st := rfl
@[simp] theorem negD_int (i : Int) : negD (.int i) st = .ok (.int (-i)) st := rfl
theorem leD_int (i j : Int) : leD (.int i) (.int j) st = .ok (.bl (decide (i ≤ j))) st := rfl
theorem neD_int (i j : Int) : neD (.int i) (.int j) st = .ok (.bl (!(i == j))) st := by simp [neD, topD, okD, eqvD]
@[simp] theorem typ_tup (xs : List D) : isiD ["tuple"] (.tup xs) st = .ok (.bl true) st := by simp [isiD, typeD]; decide
@[simp] theorem typ_int (i : Int) : isiD ["int"] (.int i) st = .ok (.bl true) st := by simp [isiD, typeD]; decide
@[simp] theorem typ_bool (i : Int) : isiD ["bool"] (.int i) st = .ok (.bl false) st := by simp [isiD, typeD]; decide
end
theorem cut1 (xs : List D) : cutD xs (some 1) none = xs.drop 1 := by
  unfold cutD
  have e : HT.sIx xs.length 0 (some 1) = min 1 xs.length := HT.sIx_nat _ _ 1
  rw [e, HT.sIx_none]
  cases xs with
  | nil => rfl
  | cons x xs =>
    have : min 1 (x :: xs).length = 1 := by simp
    rw [this]
    simp
theorem cutTo (xs : List D) (k : Nat) : cutD xs none (some (k : Int)) = xs.take k := by
  unfold cutD
  rw [HT.sIx_none, HT.sIx_nat]
  simp only [List.drop_zero, Nat.sub_zero]
  rw [Nat.min_def]
  split
  · rfl
  · rename_i h
    rw [List.take_of_length_le (Nat.le_refl _), List.take_of_length_le (by omega)]
theorem cutTo2 (xs : List D) : cutD xs none (some 2) = xs.take 2 := cutTo xs 2
theorem cutTo3 (xs : List D) : cutD xs none (some 3) = xs.take 3 := cutTo xs 3
theorem small_big {i : Int} (h : -1000000 ≤ i) (h2 : i ≤ 1000000) : big62 i = true := by
  simp only [big62, decide_eq_true_eq]
  by_cases h0 : i.natAbs = 0
  · rw [h0]; decide
  · rw [Nat.log2_lt h0]
    show i.natAbs < 4611686018427387904
    omega
theorem rangeL_eq (lo hi : Int) : rangeL lo (hi - lo).toNat = (Pl.irange lo hi).map .int := by simp [rangeL, Pl.irange]
theorem rangeL_0 (n : Nat) : rangeL 0 n = ((List.range n).map fun i => ((i : Nat) : Int)).map .int := by simp [rangeL]
theorem lenD_tup {xs : List D} {st : Mem} : lenD (.tup xs) st = .ok (.int (xs.length : Nat)) st := by unfold lenD; simp [seqD]
theorem lenD_lst' {xs : List D} {st : Mem} : lenD (.lst xs) st = .ok (.int (xs.length : Nat)) st := by unfold lenD; simp [seqD]
/-! items -/
theorem ixN_nat {n i : Nat} (h : i < n) : ixN n (i : Int) = some i := by
  unfold ixN
  rw [if_pos (by omega), if_pos (by omega)]; simp
theorem ix_tup {xs : List D} {i : Int} {d : D} {st : Mem} (h0 : 0 ≤ i) (h : xs[i.toNat]? = some d) : ixD (.tup xs) (.int i) st = .ok d st := by
  have hi : i.toNat < xs.length := (List.getElem?_eq_some_iff.mp h).1
  have e : ixN xs.length i = some i.toNat := by rw [← ixN_nat hi]; congr 1; omega
  unfold ixD
  simp only [seqD, atI, e, Option.bind_some, h]
theorem ix_lst {xs : List D} {i : Int} {d : D} {st : Mem} (h0 : 0 ≤ i) (h : xs[i.toNat]? = some d) : ixD (.lst xs) (.int i) st = .ok d st := by
  have hi : i.toNat < xs.length := (List.getElem?_eq_some_iff.mp h).1
  have e : ixN xs.length i = some i.toNat := by rw [← ixN_nat hi]; congr 1; omega
  unfold ixD
  simp only [seqD, atI, e, Option.bind_some, h]
theorem ix_loc {xs : List D} {n : Nat} {i : Int} {d : D} {st : Mem} (hs : st[n]? = some (.lst xs)) (h0 : 0 ≤ i) (h : xs[i.toNat]? = some d) : ixD (.loc n) (.int i) st = .ok d st := by
  have hi : i.toNat < xs.length := (List.getElem?_eq_some_iff.mp h).1
  have e : ixN xs.length i = some i.toNat := by rw [← ixN_nat hi]; congr 1; omega
  unfold ixD
  simp only [seqD, hs, atI, e, Option.bind_some, h]
/-! in -/
theorem any_int {i : Int} {xs : List Int} : ((xs.map D.int).any fun z => eqvD z (.int i)) = decide (i ∈ xs) := by
  induction xs with
  | nil => simp
  | cons x xs ih =>
    rw [List.map_cons, List.any_cons, ih]
    simp only [eqvD, List.mem_cons]
    by_cases h : x = i
    · subst h; simp
    · have : ¬ i = x := fun e => h e.symm
      simp [h, this]
theorem all_flat_int {xs : List Int} : (xs.map D.int).all flatD = true := by
  rw [List.all_eq_true]
  intro d hd
  obtain ⟨i, _, rfl⟩ := List.mem_map.mp hd
  rfl
theorem memD_ints {i : Int} {e : D} {xs : List Int} {st : Mem} (he : ∀ x, e ≠ .str x) (h : seqD e st = some (xs.map .int)) : memD (.int i) e st = some (decide (i ∈ xs)) := by
  unfold memD
  split
  · rename_i y; exact absurd rfl (he y)
  · rw [h]
    have f : flatD (.int i) = true := rfl
    simp only [f, all_flat_int, Bool.and_self, if_true, any_int]
theorem inD_ints {i : Int} {e : D} {xs : List Int} {st : Mem} (he : ∀ x, e ≠ .str x) (h : seqD e st = some (xs.map .int)) : inD (.int i) e st = .ok (.bl (decide (i ∈ xs))) st := by
  unfold inD; rw [memD_ints he h]
theorem notinD_ints {i : Int} {e : D} {xs : List Int} {st : Mem} (he : ∀ x, e ≠ .str x) (h : seqD e st = some (xs.map .int)) : notinD (.int i) e st = .ok (.bl (!decide (i ∈ xs))) st := by
  unfold notinD; rw [memD_ints he h]
theorem inD_lst {i : Int} {xs : List Int} {st : Mem} : inD (.int i) (.lst (xs.map .int)) st = .ok (.bl (decide (i ∈ xs))) st := inD_ints (fun _ h => nomatch h) rfl
theorem inD_tup {i : Int} {xs : List Int} {st : Mem} : inD (.int i) (.tup (xs.map .int)) st = .ok (.bl (decide (i ∈ xs))) st := inD_ints (fun _ h => nomatch h) rfl
theorem notinD_lst {i : Int} {xs : List Int} {st : Mem} : notinD (.int i) (.lst (xs.map .int)) st = .ok (.bl (!decide (i ∈ xs))) st := notinD_ints (fun _ h => nomatch h) rfl
theorem notinD_tup {i : Int} {xs : List Int} {st : Mem} : notinD (.int i) (.tup (xs.map .int)) st = .ok (.bl (!decide (i ∈ xs))) st := notinD_ints (fun _ h => nomatch h) rfl
theorem notinD_loc {i : Int} {n : Nat} {xs : List Int} {st : Mem} (h : st[n]? = some (.lst (xs.map .int))) : notinD (.int i) (.loc n) st = .ok (.bl (!decide (i ∈ xs))) st := notinD_ints (fun _ h => nomatch h) (by simp [seqD, h])
/-! comprehensions -/
section
variable {mi : ML} {g : MG} {t : MB} {m : ME} {vs : List Nat} {ρ : Env} {st : Mem} {ds : List D}
theorem filterMap_some {α β : Type} (f : α → β) (l : List α) : l.filterMap (fun d => some (f d)) = l.map f := by
  induction l with
  | nil => rfl
  | cons a l ih => simp [ih]
theorem filterMap_mem {α β : Type} {f g : α → Option β} : ∀ {l : List α}, (∀ a ∈ l, f a = g a) → l.filterMap f = l.filterMap g
  | [], _ => rfl
  | a :: l, h => by
    rw [List.filterMap_cons, List.filterMap_cons, h a List.mem_cons_self, filterMap_mem fun b hb => h b (List.mem_cons_of_mem _ hb)]
theorem lc_map (f : D → D) (hi : mi ρ st = .ok ds st) (hs : ∀ d ∈ ds, ∀ st', stepL g t m vs ρ d st' = .ok (some (f d)) st') (hl : ds.length ≤ 16000000) (hb : ∀ d ∈ ds, belowD st.length (f d) = true) :
    mLC finF mi g t m vs ρ st = .ok (.lst (ds.map f)) st := by
  rw [lc_pure (F := fun d => some (f d)) hi (fun d hd acc => hs d hd _) hl (fun d hd y e => by cases e; exact hb d hd), filterMap_some]
theorem lc_filt (f : D → D) (p : D → Bool) (hi : mi ρ st = .ok ds st) (hs : ∀ d ∈ ds, ∀ st', stepL g t m vs ρ d st' = .ok (if p d = true then some (f d) else none) st') (hl : ds.length ≤ 16000000) (hb : ∀ d ∈ ds, belowD st.length (f d) = true) :
    mLC finF mi g t m vs ρ st = .ok (.lst ((ds.filter p).map f)) st := by
  rw [lc_pure (F := fun d => if p d = true then some (f d) else none) hi (fun d hd acc => hs d hd _) hl (fun d hd y e => by
    split at e
    · cases e; exact hb d hd
    · cases e)]
  congr 2
  clear hi hs hl hb
  induction ds with
  | nil => rfl
  | cons a l ih =>
    rw [List.filterMap_cons, List.filter_cons]
    by_cases hp : p a = true
    · simp only [hp, if_true, List.map_cons, ih]
    · simp only [hp, if_false, ih]; simp
theorem boolsD_trues : ∀ {ds : List D}, (∀ d ∈ ds, d = .bl true) → boolsD ds = some (List.replicate ds.length true)
  | [], _ => rfl
  | d :: ds, h => by
    rw [h d List.mem_cons_self]
    simp only [boolsD, boolsD_trues fun e he => h e (List.mem_cons_of_mem _ he), Option.map_some, List.length_cons, List.replicate_succ]
theorem boolsD_falses : ∀ {ds : List D}, (∀ d ∈ ds, d = .bl false) → boolsD ds = some (List.replicate ds.length false)
  | [], _ => rfl
  | d :: ds, h => by
    rw [h d List.mem_cons_self]
    simp only [boolsD, boolsD_falses fun e he => h e (List.mem_cons_of_mem _ he), Option.map_some, List.length_cons, List.replicate_succ]
theorem all_lc (hi : mi ρ st = .ok ds st) (hs : ∀ d ∈ ds, ∀ st', stepL g t m vs ρ d st' = .ok (some (.bl true)) st') (hl : ds.length ≤ 16000000) : mF (f1 allD) [mLC finF mi g t m vs] ρ st = .ok (.bl true) st := by
  simp only [ap_mF, ap_args1, ap_args0, lc_map (fun _ => D.bl true) hi hs hl (fun _ _ => rfl), Res.ok_bind, ap_f1]
  unfold allD
  simp only [lstD]
  rw [boolsD_trues (by simp)]
  simp
theorem any_lc (hi : mi ρ st = .ok ds st) (hs : ∀ d ∈ ds, ∀ st', stepL g t m vs ρ d st' = .ok (some (.bl false)) st') (hl : ds.length ≤ 16000000) : mF (f1 anyD) [mLC finF mi g t m vs] ρ st = .ok (.bl false) st := by
  simp only [ap_mF, ap_args1, ap_args0, lc_map (fun _ => D.bl false) hi hs hl (fun _ _ => rfl), Res.ok_bind, ap_f1]
  unfold anyD
  simp only [lstD]
  rw [boolsD_falses (by simp)]
  simp
/-! two clauses -/
theorem lc2_pure {mi1 : ML} {g1 : MG} {t1 : MB} {vs1 : List Nat} (F : D → List D) (hi : mi ρ st = .ok ds st)
    (hs : ∀ d ∈ ds, ∀ acc : List D, acc.length + (F d).length ≤ 16000000 → stepO st.length g t mi1 g1 t1 m vs vs1 ρ d (st ++ [.lst acc]) = .ok () (st ++ [.lst (acc ++ F d)]))
    (hl : (ds.flatMap F).length ≤ 16000000) (hb : ∀ d ∈ ds, ∀ y ∈ F d, belowD st.length y = true) : mLC2 finF mi g t mi1 g1 t1 m vs vs1 ρ st = .ok (.lst (ds.flatMap F)) st := by
  have key : ∀ (es : List D) (acc : List D), (∀ d ∈ es, d ∈ ds) → acc.length + (es.flatMap F).length ≤ 16000000 → lcO es (stepO st.length g t mi1 g1 t1 m vs vs1 ρ) (st ++ [.lst acc]) = .ok () (st ++ [.lst (acc ++ es.flatMap F)]) := by
    intro es
    induction es with
    | nil => intro acc _ _; simp [lcO]
    | cons d es ih =>
      intro acc hm hl
      rw [List.flatMap_cons, List.length_append] at hl
      simp only [lcO]
      rw [hs d (hm d List.mem_cons_self) acc (by omega), Res.ok_bind, ih (acc ++ F d) (fun e he => hm e (List.mem_cons_of_mem _ he)) (by simp only [List.length_append]; omega)]
      simp [List.append_assoc]
  unfold mLC2
  rw [hi, Res.ok_bind, key ds [] (fun _ h => h) (by simpa using hl), Res.ok_bind]
  unfold finF
  have g : (st ++ [Cell.lst ([] ++ ds.flatMap F)])[st.length]? = some (.lst (ds.flatMap F)) := by simp
  have b : belowL st.length (ds.flatMap F) = true := belowL_mem fun y hy => by
    obtain ⟨d, hd, e⟩ := List.mem_flatMap.mp hy
    exact hb d hd y e
  rw [g]
  simp [b, clean]
end
/-! int tuples -/
abbrev il (xs : List Int) : D := .tup (xs.map .int)
theorem below_ints (n : Nat) (xs : List Int) : belowL n (xs.map .int) = true := belowL_mem fun d hd => by
  obtain ⟨i, _, rfl⟩ := List.mem_map.mp hd
  rfl
@[simp] theorem below_il (n : Nat) (xs : List Int) : belowD n (il xs) = true := below_ints n xs
theorem below_ils (n : Nat) (xs : List (List Int)) : belowL n (xs.map il) = true := belowL_mem fun d hd => by
  obtain ⟨i, _, rfl⟩ := List.mem_map.mp hd
  exact below_il n i
theorem okDL_mem {n : Nat} : ∀ {ds : List D}, (∀ d ∈ ds, okD n d = true) → okDL n ds = true
  | [], _ => rfl
  | d :: ds, h => by
    simp only [okDL, Bool.and_eq_true]
    exact ⟨h d List.mem_cons_self, okDL_mem fun e he => h e (List.mem_cons_of_mem _ he)⟩
theorem okD_il (n : Nat) (xs : List Int) : okD (n + 1) (il xs) = true := by
  simp only [okD]
  exact okDL_mem fun d hd => by
    obtain ⟨i, _, rfl⟩ := List.mem_map.mp hd
    cases n <;> rfl
theorem okDL_ils (n : Nat) (xs : List (List Int)) : okDL (n + 1) (xs.map il) = true := okDL_mem fun d hd => by
  obtain ⟨i, _, rfl⟩ := List.mem_map.mp hd
  exact okD_il n i
mutual
theorem eqvD_self : ∀ d : D, (∀ n, okD n d = true → eqvD d d = true)
  | .non, _, _ => rfl
  | .bl _, _, _ => by simp [eqvD]
  | .int _, _, _ => by simp [eqvD]
  | .str _, _, _ => by simp [eqvD]
  | .tup xs, n, h => by
    cases n with
    | zero => simp [okD] at h
    | succ n => simp only [okD, eqvD] at h ⊢; exact eqvL_self xs n h
  | .lst xs, n, h => by
    cases n with
    | zero => simp [okD] at h
    | succ n => simp only [okD, eqvD] at h ⊢; exact eqvL_self xs n h
  | .fz xs, n, h => by
    cases n with
    | zero => simp [okD] at h
    | succ n => simp only [okD, eqvD] at h ⊢; exact eqvL_self xs n h
  | .kt xs, n, h => by
    cases n with
    | zero => simp [okD] at h
    | succ n => simp only [okD, eqvD] at h ⊢; exact eqvL_self xs n h
  | .dct _ _, n, h => by cases n <;> simp [okD] at h
  | .loc _, n, h => by cases n <;> simp [okD] at h
  | .gl _, n, h => by cases n <;> simp [okD] at h
theorem eqvL_self : ∀ (ds : List D) (n : Nat), okDL n ds = true → eqvL ds ds = true
  | [], _, _ => rfl
  | d :: ds, n, h => by
    simp only [okDL, Bool.and_eq_true] at h
    simp only [eqvL, Bool.and_eq_true]
    exact ⟨eqvD_self d n h.1, eqvL_self ds n h.2⟩
end
theorem neD_same {d : D} {st : Mem} (h : okD 12 d = true) (hl : ∀ n, d ≠ .loc n) : neD d d st = .ok (.bl false) st := by
  have e : topD d st = d := by
    unfold topD
    split
    · rename_i n; exact absurd rfl (hl n)
    · rfl
  unfold neD
  split
  · simp
  · rw [e, if_pos ⟨h, h⟩, eqvD_self d 12 h]; rfl
theorem eqvL_nil_lst {xs : List D} {st : Mem} (h : okDL 11 xs = true) : eqD (.lst xs) (.lst []) st = .ok (.bl xs.isEmpty) st := by
  have o : okD 12 (.lst xs) = true := h
  unfold eqD
  simp only [topD, o, true_and]
  rw [if_pos (by rfl)]
  cases xs <;> simp [eqvD, eqvL]
theorem nevL_nil_lst {xs : List D} {st : Mem} (h : okDL 11 xs = true) : neD (.lst xs) (.lst []) st = .ok (.bl (!xs.isEmpty)) st := by
  have o : okD 12 (.lst xs) = true := h
  unfold neD
  simp only [topD, o, true_and]
  rw [if_pos (by rfl)]
  cases xs <;> simp [eqvD, eqvL]
/-! sorted -/
theorem intsL_map : ∀ xs : List Int, intsL (xs.map .int) = some xs
  | [] => rfl
  | x :: xs => by simp [intsL, intsL_map xs]
@[simp] theorem sKey_il (xs : List Int) : sKey (il xs) = some xs := intsL_map xs
theorem sLe_il (a b : List Int) : sLe (il a) (il b) = decide (a ≤ b) := by simp [sLe]
theorem sortL_ils {xs ys : List (List Int)} (hp : xs.Perm ys) (hy : ys.Pairwise (· ≤ ·)) : sortL (xs.map il) = ys.map il := by
  unfold sortL
  have inj : ∀ a b : List Int, il a = il b → a = b := fun a b h => by
    have := congrArg sKey h
    simpa using this
  have tr : ∀ a b c : D, sLe a b = true → sLe b c = true → sLe a c = true := fun a b c h1 h2 => by
    simp only [sLe, decide_eq_true_eq] at *
    exact List.le_trans h1 h2
  have to : ∀ a b : D, (sLe a b || sLe b a) = true := fun a b => by
    simp only [sLe, Bool.or_eq_true, decide_eq_true_eq]
    exact List.le_total _ _
  refine List.Perm.eq_of_pairwise (le := fun a b => sLe a b = true) (fun a b ha hb h1 h2 => ?_) (List.pairwise_mergeSort tr to _) ?_ ((List.mergeSort_perm _ _).trans (hp.map il))
  · rw [List.mem_mergeSort] at ha
    obtain ⟨x, _, rfl⟩ := List.mem_map.mp ha
    obtain ⟨y, _, rfl⟩ := List.mem_map.mp hb
    rw [sLe_il, decide_eq_true_eq] at h1 h2
    rw [List.le_antisymm h1 h2]
  · rw [List.pairwise_map]
    exact hy.imp fun h => by rw [sLe_il]; simpa using h
theorem srtOk_ils {xs : List (List Int)} (h : ∀ x ∈ xs, x ≠ []) : srtOk (xs.map il) = true := by
  unfold srtOk
  simp only [Bool.and_eq_true, Bool.or_eq_true]
  refine ⟨?_, .inl (.inr ?_)⟩
  · rw [List.all_eq_true]; intro d hd
    obtain ⟨x, _, rfl⟩ := List.mem_map.mp hd
    simp
  · rw [List.all_eq_true]; intro d hd
    obtain ⟨x, hx, rfl⟩ := List.mem_map.mp hd
    simp [isIntD, h x hx]
theorem srtOk_one {xs : List (List Int)} (h : xs.length ≤ 1) : srtOk (xs.map il) = true := by
  unfold srtOk
  simp only [Bool.and_eq_true, Bool.or_eq_true]
  refine ⟨?_, .inr (by simpa using h)⟩
  rw [List.all_eq_true]; intro d hd
  obtain ⟨x, _, rfl⟩ := List.mem_map.mp hd
  simp
theorem sortL_ints {xs ys : List Int} (hp : xs.Perm ys) (hy : ys.Pairwise (· ≤ ·)) : sortL (xs.map .int) = ys.map .int := by
  unfold sortL
  have le1 : ∀ a b : Int, sLe (.int a) (.int b) = decide (a ≤ b) := fun a b => by
    simp only [sLe, sKey, Option.getD_some]
    congr 1
    rw [List.cons_le_cons_iff]
    apply propext
    constructor
    · rintro (h | ⟨h, _⟩) <;> omega
    · intro h
      by_cases e : a = b
      · exact .inr ⟨e, List.le_refl _⟩
      · exact .inl (by omega)
  have tr : ∀ a b c : D, sLe a b = true → sLe b c = true → sLe a c = true := fun a b c h1 h2 => by
    simp only [sLe, decide_eq_true_eq] at *
    exact List.le_trans h1 h2
  have to : ∀ a b : D, (sLe a b || sLe b a) = true := fun a b => by
    simp only [sLe, Bool.or_eq_true, decide_eq_true_eq]
    exact List.le_total _ _
  refine List.Perm.eq_of_pairwise (le := fun a b => sLe a b = true) (fun a b ha hb h1 h2 => ?_) (List.pairwise_mergeSort tr to _) ?_ ((List.mergeSort_perm _ _).trans (hp.map D.int))
  · rw [List.mem_mergeSort] at ha
    obtain ⟨x, _, rfl⟩ := List.mem_map.mp ha
    obtain ⟨y, _, rfl⟩ := List.mem_map.mp hb
    rw [le1, decide_eq_true_eq] at h1 h2
    rw [Int.le_antisymm h1 h2]
  · rw [List.pairwise_map]
    exact hy.imp fun h => by rw [le1]; simpa using h
theorem srtOk_ints {xs : List Int} : srtOk (xs.map .int) = true := by
  unfold srtOk
  simp only [Bool.and_eq_true, Bool.or_eq_true]
  refine ⟨?_, .inl (.inl ?_)⟩
  · rw [List.all_eq_true]; intro d hd
    obtain ⟨x, _, rfl⟩ := List.mem_map.mp hd
    rfl
  · rw [List.all_eq_true]; intro d hd
    obtain ⟨x, _, rfl⟩ := List.mem_map.mp hd
    rfl
/-! neighbours -/
theorem zip_adj {α : Type} {R : α → α → Prop} (f : α → D) : ∀ {l : List α}, l.Pairwise R → ∀ d ∈ zipD (l.map f) ((l.map f).drop 1), ∃ a b, a ∈ l ∧ b ∈ l ∧ d = .tup [f a, f b] ∧ R a b
  | [], _, d, h => by simp [zipD] at h
  | [_], _, d, h => by simp [zipD] at h
  | x :: y :: l, hp, d, h => by
    rw [List.pairwise_cons] at hp
    simp only [zipD, List.map_cons, List.drop_succ_cons, List.drop_zero, List.zipWith_cons_cons, List.mem_cons] at h
    rcases h with rfl | h
    · exact ⟨x, y, List.mem_cons_self, List.mem_cons_of_mem _ List.mem_cons_self, rfl, hp.1 y List.mem_cons_self⟩
    · obtain ⟨a, b, ha, hb, e, r⟩ := zip_adj f (l := y :: l) hp.2 d (by simpa [zipD] using h)
      exact ⟨a, b, List.mem_cons_of_mem _ ha, List.mem_cons_of_mem _ hb, e, r⟩
end VI
set_option maxHeartbeats 4000000
/-! running readings: lists of truths; networks as data -/
namespace VI
open PySem PySem.Spec PyProof.Rows L2
def trues (n : Nat) : D := .lst (List.replicate n (.bl true))
def falses (n : Nat) : D := .lst (List.replicate n (.bl false))
@[simp] theorem allD_trues (n : Nat) (st : Mem) : allD (trues n) st = .ok (.bl true) st := by
  unfold allD trues
  simp only [lstD]
  rw [boolsD_trues (by simp)]
  simp
@[simp] theorem anyD_falses (n : Nat) (st : Mem) : anyD (falses n) st = .ok (.bl false) st := by
  unfold anyD falses
  simp only [lstD]
  rw [boolsD_falses (by simp)]
  simp
section
variable {mi : ML} {g : MG} {t : MB} {m : ME} {vs : List Nat} {ρ : Env} {st : Mem} {ds : List D}
theorem lc_trues (hi : mi ρ st = .ok ds st) (hs : ∀ d ∈ ds, ∀ st', stepL g t m vs ρ d st' = .ok (some (.bl true)) st') (hl : ds.length ≤ 16000000) : mLC finF mi g t m vs ρ st = .ok (trues ds.length) st := by
  rw [lc_map (fun _ => D.bl true) hi hs hl (fun _ _ => rfl), List.map_const']
  rfl
theorem lc_falses (hi : mi ρ st = .ok ds st) (hs : ∀ d ∈ ds, ∀ st', stepL g t m vs ρ d st' = .ok (some (.bl false)) st') (hl : ds.length ≤ 16000000) : mLC finF mi g t m vs ρ st = .ok (falses ds.length) st := by
  rw [lc_map (fun _ => D.bl false) hi hs hl (fun _ _ => rfl), List.map_const']
  rfl
end
@[simp] theorem gTp_tup (n : Nat) (h : List D → Env → Mem → RS) (ds : List D) (ρ : Env) (st : Mem) : gTp n h (.tup ds) ρ st = if ds.length = n then h ds ρ st else .bad := rfl
@[simp] theorem gsCons_c (g : MG) (h : List D → Env → Mem → RS) (d : D) (ds : List D) (ρ : Env) (st : Mem) : gsCons g h (d :: ds) ρ st = match g d ρ st with
  | .nx ρ1 st1 => h ds ρ1 st1
  | _ => .bad := rfl
@[simp] theorem gsNil_n (ρ : Env) (st : Mem) : gsNil [] ρ st = .nx ρ st := rfl
/-! networks -/
abbrev Lk := Int × Int × Int × Int
abbrev Gp := Int × Int × Int
def lkD (l : Lk) : D := .tup [.int l.1, .int l.2.1, .int l.2.2.1, .int l.2.2.2]
def gpD (g : Gp) : D := .tup [.int g.1, .int g.2.1, .int g.2.2]
structure Net where
  m : Nat
  ls : List Lk
  gs : List Gp
def Net.d (N : Net) : D := .tup [.int N.m, .tup (N.ls.map lkD), .tup (N.gs.map gpD)]
def Net.ends (N : Net) : List Int := N.ls.map (·.2.1)
def Net.all (N : Net) : List Int := (List.range N.m).map fun i => ((i : Nat) : Int)
def Net.ours (N : Net) : List Int := N.all.filter fun i => !decide (i ∈ N.ends)
structure Net.Ok (N : Net) : Prop where
  m2 : 2 ≤ N.m
  m6 : N.m ≤ 6
  l3 : N.ls.length ≤ 3
  lk : ∀ l ∈ N.ls, 0 ≤ l.1 ∧ l.1 < N.m ∧ 0 < l.2.1 ∧ l.2.1 < N.m ∧ l.1 ≠ l.2.1 ∧ 1 ≤ l.2.2.1 ∧ l.2.2.1 ≤ l.2.2.2 ∧ l.2.2.2 ≤ 99
  asc : N.ends.Pairwise (· < ·)
  src : ∀ l ∈ N.ls, l.1 ∉ N.ends
  g15 : N.gs.length ≤ 15
  gp : ∀ g ∈ N.gs, 0 ≤ g.1 ∧ g.1 < N.m ∧ 0 ≤ g.2.1 ∧ g.2.1 < N.m ∧ g.1 ≠ g.2.1 ∧ -99 ≤ g.2.2 ∧ g.2.2 ≤ 99
  gasc : N.gs.Pairwise fun a b => HT.lexLt [a.1, a.2.1] [b.1, b.2.1] = true
theorem ixd0 (xs : List D) (d : D) (st : Mem) : ixD (.tup (d :: xs)) (.int 0) st = .ok d st := ix_tup (by decide) rfl
theorem ixd1 (xs : List D) (a d : D) (st : Mem) : ixD (.tup (a :: d :: xs)) (.int 1) st = .ok d st := ix_tup (by decide) rfl
theorem ixd2 (xs : List D) (a b d : D) (st : Mem) : ixD (.tup (a :: b :: d :: xs)) (.int 2) st = .ok d st := ix_tup (by decide) rfl
theorem ixd3 (xs : List D) (a b c d : D) (st : Mem) : ixD (.tup (a :: b :: c :: d :: xs)) (.int 3) st = .ok d st := ix_tup (by decide) rfl
theorem ixd4 (xs : List D) (a b c e d : D) (st : Mem) : ixD (.tup (a :: b :: c :: e :: d :: xs)) (.int 4) st = .ok d st := ix_tup (by decide) rfl
theorem Net.ix0 (N : Net) (st : Mem) : ixD N.d (.int 0) st = .ok (.int N.m) st := ixd0 ..
theorem Net.ix1 (N : Net) (st : Mem) : ixD N.d (.int 1) st = .ok (.tup (N.ls.map lkD)) st := ixd1 ..
theorem Net.ix2 (N : Net) (st : Mem) : ixD N.d (.int 2) st = .ok (.tup (N.gs.map gpD)) st := ixd2 ..
theorem mem_all {N : Net} {x : Int} : x ∈ N.all ↔ 0 ≤ x ∧ x < N.m := by
  simp only [Net.all, List.mem_map, List.mem_range]
  constructor
  · rintro ⟨i, h, rfl⟩; omega
  · rintro ⟨h1, h2⟩; exact ⟨x.toNat, by omega, by omega⟩
theorem mem_ours {N : Net} {x : Int} : x ∈ N.ours ↔ (0 ≤ x ∧ x < N.m) ∧ x ∉ N.ends := by
  simp only [Net.ours, List.mem_filter, mem_all, Bool.not_eq_true', decide_eq_false_iff_not]
theorem isiT (xs : List D) (st : Mem) : isiD ["tuple"] (.tup xs) st = .ok (.bl true) st := typ_tup st xs
theorem isiN (N : Net) (st : Mem) : isiD ["tuple"] N.d st = .ok (.bl true) st := typ_tup st _
theorem lenN (N : Net) (st : Mem) : lenD N.d st = .ok (.int 3) st := lenD_tup
end VI
namespace VI
open PySem PySem.Spec PyProof.Rows L2
section
variable {mi : ML} {g : MG} {t : MB} {m : ME} {vs : List Nat} {ρ : Env} {st : Mem}
theorem lcL_pureL {α : Type} {g0 : α → D} {f : D → Mem → Res (Option D)} {F : α → Option D} : ∀ {xs : List α} {acc : List D}, (∀ x ∈ xs, ∀ acc, f (g0 x) (st ++ [.lst acc]) = .ok (F x) (st ++ [.lst acc])) → acc.length + xs.length ≤ 16000000 →
    lcL st.length (xs.map g0) f (st ++ [.lst acc]) = .ok () (st ++ [.lst (acc ++ xs.filterMap F)])
  | [], acc, _, _ => by simp [lcL]
  | x :: xs, acc, h, hl => by
    have e := h x List.mem_cons_self acc
    have ih : ∀ acc', acc'.length + xs.length ≤ 16000000 → lcL st.length (xs.map g0) f (st ++ [.lst acc']) = .ok () (st ++ [.lst (acc' ++ xs.filterMap F)]) := fun acc' hl' => lcL_pureL (fun d hd acc => h d (List.mem_cons_of_mem _ hd) acc) hl'
    simp only [List.length_cons] at hl
    simp only [List.map_cons, lcL, e, Res.ok_bind]
    cases q : F x with
    | none =>
      simp only [pushL, Res.ok_bind]
      rw [ih acc (by omega)]
      simp [q]
    | some y =>
      have g : (st ++ [Cell.lst acc])[st.length]? = some (.lst acc) := by simp
      have hL : acc.length < LINE := by show acc.length < 16777216; omega
      simp only [pushL, g, if_pos hL, Res.ok_bind]
      have e2 : (st ++ [Cell.lst acc]).set st.length (.lst (acc ++ [y])) = st ++ [.lst (acc ++ [y])] := by simp
      rw [e2, ih (acc ++ [y]) (by simp; omega)]
      simp [q]
theorem lc_pureL {α : Type} {xs : List α} {g0 : α → D} {F : α → Option D} (hi : mi ρ st = .ok (xs.map g0) st) (hs : ∀ x ∈ xs, ∀ acc, stepL g t m vs ρ (g0 x) (st ++ [.lst acc]) = .ok (F x) (st ++ [.lst acc])) (hl : xs.length ≤ 16000000) (hb : ∀ x ∈ xs, ∀ y, F x = some y → belowD st.length y = true) :
    mLC finF mi g t m vs ρ st = .ok (.lst (xs.filterMap F)) st := by
  unfold mLC
  rw [hi, Res.ok_bind, lcL_pureL hs (by simpa using hl), Res.ok_bind]
  unfold finF
  have g : (st ++ [Cell.lst ([] ++ xs.filterMap F)])[st.length]? = some (.lst (xs.filterMap F)) := by simp
  have b : belowL st.length (xs.filterMap F) = true := belowL_mem fun y hy => by
    obtain ⟨d, hd, e⟩ := List.mem_filterMap.mp hy
    exact hb d hd y e
  rw [g]
  simp [b, clean]
theorem lc_mapL {α : Type} {xs : List α} {g0 : α → D} (f : α → D) (hi : mi ρ st = .ok (xs.map g0) st) (hs : ∀ x ∈ xs, ∀ st', stepL g t m vs ρ (g0 x) st' = .ok (some (f x)) st') (hl : xs.length ≤ 16000000) (hb : ∀ x ∈ xs, belowD st.length (f x) = true) :
    mLC finF mi g t m vs ρ st = .ok (.lst (xs.map f)) st := by
  rw [lc_pureL (F := fun d => some (f d)) hi (fun d hd acc => hs d hd _) hl (fun d hd y e => by cases e; exact hb d hd), filterMap_some]
theorem filterMap_if {α β : Type} (p : α → Bool) (f : α → β) : ∀ l : List α, l.filterMap (fun d => if p d = true then some (f d) else none) = (l.filter p).map f
  | [] => rfl
  | a :: l => by
    rw [List.filterMap_cons, List.filter_cons]
    by_cases hp : p a = true
    · simp only [hp, if_true, List.map_cons, filterMap_if p f l]
    · simp only [hp, if_false, filterMap_if p f l]; simp
theorem lc_filtL {α : Type} {xs : List α} {g0 : α → D} (f : α → D) (p : α → Bool) (hi : mi ρ st = .ok (xs.map g0) st) (hs : ∀ x ∈ xs, ∀ st', stepL g t m vs ρ (g0 x) st' = .ok (if p x = true then some (f x) else none) st') (hl : xs.length ≤ 16000000) (hb : ∀ x ∈ xs, belowD st.length (f x) = true) :
    mLC finF mi g t m vs ρ st = .ok (.lst ((xs.filter p).map f)) st := by
  rw [lc_pureL (F := fun d => if p d = true then some (f d) else none) hi (fun d hd acc => hs d hd _) hl (fun d hd y e => by
    split at e
    · cases e; exact hb d hd
    · cases e), filterMap_if]
theorem lc2_pureL {α : Type} {xs : List α} {g0 : α → D} {mi1 : ML} {g1 : MG} {t1 : MB} {vs1 : List Nat} (F : α → List D) (hi : mi ρ st = .ok (xs.map g0) st)
    (hs : ∀ x ∈ xs, ∀ acc : List D, acc.length + (F x).length ≤ 16000000 → stepO st.length g t mi1 g1 t1 m vs vs1 ρ (g0 x) (st ++ [.lst acc]) = .ok () (st ++ [.lst (acc ++ F x)]))
    (hl : (xs.flatMap F).length ≤ 16000000) (hb : ∀ x ∈ xs, ∀ y ∈ F x, belowD st.length y = true) : mLC2 finF mi g t mi1 g1 t1 m vs vs1 ρ st = .ok (.lst (xs.flatMap F)) st := by
  have key : ∀ (es : List α) (acc : List D), (∀ d ∈ es, d ∈ xs) → acc.length + (es.flatMap F).length ≤ 16000000 → lcO (es.map g0) (stepO st.length g t mi1 g1 t1 m vs vs1 ρ) (st ++ [.lst acc]) = .ok () (st ++ [.lst (acc ++ es.flatMap F)]) := by
    intro es
    induction es with
    | nil => intro acc _ _; simp [lcO]
    | cons d es ih =>
      intro acc hm hl
      rw [List.flatMap_cons, List.length_append] at hl
      simp only [List.map_cons, lcO]
      rw [hs d (hm d List.mem_cons_self) acc (by omega), Res.ok_bind, ih (acc ++ F d) (fun e he => hm e (List.mem_cons_of_mem _ he)) (by simp only [List.length_append]; omega)]
      simp [List.append_assoc]
  unfold mLC2
  rw [hi, Res.ok_bind, key xs [] (fun _ h => h) (by simpa using hl), Res.ok_bind]
  unfold finF
  have g : (st ++ [Cell.lst ([] ++ xs.flatMap F)])[st.length]? = some (.lst (xs.flatMap F)) := by simp
  have b : belowL st.length (xs.flatMap F) = true := belowL_mem fun y hy => by
    obtain ⟨d, hd, e⟩ := List.mem_flatMap.mp hy
    exact hb d hd y e
  rw [g]
  simp [b, clean]
end
theorem zipD_map {α β : Type} (f : α → D) (g : β → D) : ∀ (xs : List α) (ys : List β), zipD (xs.map f) (ys.map g) = (xs.zip ys).map fun p => .tup [f p.1, g p.2]
  | [], _ => by simp [zipD]
  | _ :: _, [] => by simp [zipD]
  | x :: xs, y :: ys => by
    have := zipD_map f g xs ys
    simp only [zipD] at this ⊢
    simp [this]
/-- rows made longer by one -/
theorem ext_lc {ρ : Env} {st : Mem} {a i j : Nat} {MI : ML} {F : List (List Int)} {lo hi : Int} (hij : i ≠ j) (hi' : i < ρ.length) (hj' : j < ρ.length) (ha : ρ[a]? = some (some (.lst (F.map il))))
    (hMI : ∀ row st', MI ((wipeE ρ [i, j]).set i (some row)) st' = .ok ((Pl.irange lo hi).map .int) st') (hl : (Pl.ext1 F (lo, hi)).length ≤ 16000000) (hl2 : ∀ row ∈ F, row.length ≤ 1000) (hl3 : (Pl.irange lo hi).length ≤ 1000) :
    mLC2 finF (mIt (mVar a)) (gNm i) mYes MI (gNm j) mYes (m2 addD (mVar i) (mTup [mVar j])) [i, j] [j] ρ st = .ok (.lst ((Pl.ext1 F (lo, hi)).map il)) st := by
  have e : (F.flatMap fun row => (Pl.irange lo hi).map fun k => il (row ++ [k])) = (Pl.ext1 F (lo, hi)).map il := by
    simp [Pl.ext1, List.map_flatMap, Function.comp_def]
  rw [← e]
  refine lc2_pureL (xs := F) (g0 := il) (fun row => (Pl.irange lo hi).map fun k => il (row ++ [k])) (by simp [ap_var _ _ _ _ ha]) (fun row hrow acc hacc => ?_) (by rw [e]; simpa using hl) (fun row hrow y hy => ?_)
  · simp only [stepO, ap_gNm, ap_yes, Res.noX_ok, Res.ok_bind, if_true, hMI]
    rw [lcL_pureL (xs := Pl.irange lo hi) (g0 := D.int) (F := fun k => some (il (row ++ [k]))) (fun k hk acc' => ?_) (by simp only [List.length_map] at hacc; omega)]
    · rw [filterMap_some]
    · have e1 : ((wipeE ρ [i, j]).set i (some (il row))).length = ρ.length := by simp [wipeE]
      have hr := hl2 row hrow
      have g1 : (((((wipeE ρ [i, j]).set i (some (il row))).set j none).set j (some (D.int k))))[i]? = some (some (il row)) := by
        rw [List.getElem?_set_ne (Ne.symm hij), List.getElem?_set_ne (Ne.symm hij)]
        simp [wipeE, hi']
      have g2 : (((((wipeE ρ [i, j]).set i (some (il row))).set j none).set j (some (D.int k))))[j]? = some (some (D.int k)) := by
        simp [wipeE, hj']
      simp only [stepL, wipeE, ap_gNm, ap_yes, Res.noX_ok, Res.ok_bind, if_true, ap_m2, ap_tup, ap_args1, ap_args0] at g1 g2 ⊢
      simp only [ap_var _ _ _ _ g1, ap_var _ _ _ _ g2, Res.ok_bind]
      have : row.length + 1 ≤ LINE := by show row.length + 1 ≤ 16777216; omega
      simp [addD, this]
  · obtain ⟨k, _, rfl⟩ := List.mem_map.mp hy
    exact below_il _ _
end VI
set_option maxHeartbeats 4000000
/-! networks in plain words: plays, what bars them, all lengths, kept plays -/
namespace VI
open PySem
/-- the time of a moment -/
def av (p : List Int) (x : Int) : Int := p.getD x.toNat 0
def putAll (p : List Int) (zs : List (Int × Int)) : List Int := zs.foldl (fun p z => p.set z.1.toNat z.2) p
def putLk (p : List Int) (zs : List (Lk × Int)) : List Int := zs.foldl (fun p z => p.set z.1.2.1.toNat (av p z.1.1 + z.2)) p
def Net.play (N : Net) (ts len : List Int) : List Int := putLk (putAll (List.replicate N.m 0) (N.ours.zip ts)) (N.ls.zip len)
theorem av_set_ne {p : List Int} {x y v : Int} (hx : 0 ≤ x) (hy : 0 ≤ y) (h : x ≠ y) : av (p.set x.toNat v) y = av p y := by
  unfold av
  rw [List.getD_eq_getElem?_getD, List.getD_eq_getElem?_getD, List.getElem?_set_ne (by omega)]
theorem av_set_eq {p : List Int} {x v : Int} (h : x.toNat < p.length) : av (p.set x.toNat v) x = v := by
  unfold av
  rw [List.getD_eq_getElem?_getD]
  simp [h]
theorem length_putAll : ∀ (zs : List (Int × Int)) (p : List Int), (putAll p zs).length = p.length
  | [], _ => rfl
  | z :: zs, p => by
    show (putAll (p.set _ _) zs).length = _
    rw [length_putAll]; simp
theorem length_putLk : ∀ (zs : List (Lk × Int)) (p : List Int), (putLk p zs).length = p.length
  | [], _ => rfl
  | z :: zs, p => by
    show (putLk (p.set _ _) zs).length = _
    rw [length_putLk]; simp
theorem length_play (N : Net) (ts len : List Int) : (N.play ts len).length = N.m := by simp [Net.play, length_putLk, length_putAll]
theorem putAll_ne {x : Int} (hx : 0 ≤ x) : ∀ {zs : List (Int × Int)} {p : List Int}, (∀ z ∈ zs, 0 ≤ z.1 ∧ z.1 ≠ x) → av (putAll p zs) x = av p x
  | [], _, _ => rfl
  | z :: zs, p, h => by
    show av (putAll (p.set _ _) zs) x = _
    rw [putAll_ne hx fun y hy => h y (List.mem_cons_of_mem _ hy)]
    have := h z List.mem_cons_self
    exact av_set_ne this.1 hx this.2
theorem putAll_eq : ∀ {zs : List (Int × Int)} {p : List Int}, (∀ z ∈ zs, 0 ≤ z.1 ∧ z.1.toNat < p.length) → (zs.map (·.1)).Pairwise (· < ·) → ∀ z ∈ zs, av (putAll p zs) z.1 = z.2
  | [], _, _, _, _, h => by cases h
  | y :: zs, p, h, hp, z, hz => by
    show av (putAll (p.set _ _) zs) z.1 = _
    rw [List.map_cons, List.pairwise_cons] at hp
    rcases List.mem_cons.mp hz with rfl | hz
    · rw [putAll_ne (h z List.mem_cons_self).1 fun w hw => ⟨(h w (List.mem_cons_of_mem _ hw)).1, ?_⟩]
      · exact av_set_eq (h z List.mem_cons_self).2
      · have := hp.1 w.1 (List.mem_map.mpr ⟨w, hw, rfl⟩)
        omega
    · exact putAll_eq (fun w hw => by rw [List.length_set]; exact h w (List.mem_cons_of_mem _ hw)) hp.2 z hz
theorem putLk_ne {x : Int} (hx : 0 ≤ x) : ∀ {zs : List (Lk × Int)} {p : List Int}, (∀ z ∈ zs, 0 ≤ z.1.2.1 ∧ z.1.2.1 ≠ x) → av (putLk p zs) x = av p x
  | [], _, _ => rfl
  | z :: zs, p, h => by
    show av (putLk (p.set _ _) zs) x = _
    rw [putLk_ne hx fun y hy => h y (List.mem_cons_of_mem _ hy)]
    have := h z List.mem_cons_self
    exact av_set_ne this.1 hx this.2
theorem putLk_eq : ∀ {zs : List (Lk × Int)} {p : List Int}, (∀ z ∈ zs, 0 ≤ z.1.2.1 ∧ z.1.2.1.toNat < p.length ∧ 0 ≤ z.1.1 ∧ ∀ y ∈ zs, y.1.2.1 ≠ z.1.1) → (zs.map (·.1.2.1)).Pairwise (· < ·) → ∀ z ∈ zs, av (putLk p zs) z.1.2.1 = av p z.1.1 + z.2
  | [], _, _, _, _, h => by cases h
  | y :: zs, p, h, hp, z, hz => by
    show av (putLk (p.set _ _) zs) z.1.2.1 = _
    rw [List.map_cons, List.pairwise_cons] at hp
    rcases List.mem_cons.mp hz with rfl | hz
    · have hh := h z List.mem_cons_self
      rw [putLk_ne hh.1 fun w hw => ⟨(h w (List.mem_cons_of_mem _ hw)).1, ?_⟩]
      · exact av_set_eq hh.2.1
      · have := hp.1 w.1.2.1 (List.mem_map.mpr ⟨w, hw, rfl⟩)
        omega
    · rw [putLk_eq (fun w hw => ?_) hp.2 z hz]
      · have hh := h z (List.mem_cons_of_mem _ hz)
        rw [av_set_ne (h y List.mem_cons_self).1 hh.2.2.1 (hh.2.2.2 y List.mem_cons_self)]
      · have hh := h w (List.mem_cons_of_mem _ hw)
        exact ⟨hh.1, by rw [List.length_set]; exact hh.2.1, hh.2.2.1, fun v hv => hh.2.2.2 v (List.mem_cons_of_mem _ hv)⟩
section
variable {N : Net}
theorem ours_asc : N.ours.Pairwise (· < ·) := by
  unfold Net.ours Net.all
  refine List.Pairwise.filter _ ?_
  rw [List.pairwise_map]
  exact List.Pairwise.imp (fun h => by omega) List.pairwise_lt_range
theorem zip_fst_pw {α : Type} {R : Int → Int → Prop} {f : α → Int} : ∀ {xs : List α} {ys : List Int}, (xs.map f).Pairwise R → ((xs.zip ys).map (fun z => f z.1)).Pairwise R
  | [], _, _ => by simp
  | _ :: _, [], _ => by simp
  | x :: xs, y :: ys, h => by
    rw [List.map_cons, List.pairwise_cons] at h
    rw [List.zip_cons_cons, List.map_cons, List.pairwise_cons]
    refine ⟨fun a ha => ?_, zip_fst_pw h.2⟩
    obtain ⟨z, hz, rfl⟩ := List.mem_map.mp ha
    exact h.1 _ (List.mem_map.mpr ⟨z.1, (List.of_mem_zip hz).1, rfl⟩)
/-- what a play tells -/
structure PlaySpec (N : Net) (ts len : List Int) (q : List Int) : Prop where
  ours : ∀ z ∈ N.ours.zip ts, av q z.1 = z.2
  ends : ∀ z ∈ N.ls.zip len, av q z.1.2.1 = av q z.1.1 + z.2
theorem play_spec (ok : N.Ok) (ts len : List Int) : PlaySpec N ts len (N.play ts len) := by
  have hlk : ∀ z ∈ N.ls.zip len, z.1 ∈ N.ls := fun z hz => (List.of_mem_zip hz).1
  have hE : ∀ l ∈ N.ls, l.2.1 ∈ N.ends := fun l hl => List.mem_map.mpr ⟨l, hl, rfl⟩
  have base : ∀ x : Int, 0 ≤ x → x ∉ N.ends → av (N.play ts len) x = av (putAll (List.replicate N.m 0) (N.ours.zip ts)) x := fun x hx hn => by
    refine putLk_ne hx fun z hz => ⟨by have := ok.lk _ (hlk z hz); omega, fun e => hn ?_⟩
    rw [← e]; exact hE _ (hlk z hz)
  constructor
  · intro z hz
    have hm := mem_ours.mp (List.of_mem_zip hz).1
    rw [base z.1 hm.1.1 hm.2]
    refine putAll_eq (fun w hw => ?_) ?_ z hz
    · have := (mem_ours.mp (List.of_mem_zip hw).1).1
      exact ⟨this.1, by simp; omega⟩
    · have := zip_fst_pw (xs := N.ours) (ys := ts) (f := fun x => x) (R := (· < ·)) (by simpa using ours_asc)
      exact this
  · intro z hz
    have hl := ok.lk _ (hlk z hz)
    rw [base z.1.1 hl.1 (ok.src _ (hlk z hz))]
    refine putLk_eq (fun w hw => ?_) ?_ z hz
    · have hw' := ok.lk _ (hlk w hw)
      refine ⟨by omega, by rw [length_putAll]; simp; omega, hw'.1, fun y hy e => ok.src _ (hlk w hw) ?_⟩
      rw [← e]; exact hE _ (hlk y hy)
    · exact zip_fst_pw (xs := N.ls) (ys := len) (f := fun l => l.2.1) ok.asc
theorem mem_zip_l {α β : Type} : ∀ {xs : List α} {ys : List β}, xs.length ≤ ys.length → ∀ x ∈ xs, ∃ y, (x, y) ∈ xs.zip ys
  | [], _, _, _, h => by cases h
  | _ :: _, [], hl, _, _ => by simp at hl
  | a :: xs, b :: ys, hl, x, h => by
    rcases List.mem_cons.mp h with rfl | h
    · exact ⟨b, List.mem_cons_self⟩
    · obtain ⟨y, hy⟩ := mem_zip_l (by simpa using hl) x h
      exact ⟨y, List.mem_cons_of_mem _ hy⟩
theorem av_ext {p q : List Int} {m : Nat} (hp : p.length = m) (hq : q.length = m) (h : ∀ x : Int, 0 ≤ x → x < m → av p x = av q x) : p = q := by
  refine List.ext_getElem (by rw [hp, hq]) fun i h1 h2 => ?_
  have := h (i : Nat) (by omega) (by omega)
  simp only [av, Int.toNat_natCast, List.getD_eq_getElem?_getD, List.getElem?_eq_getElem h1, List.getElem?_eq_getElem h2, Option.getD_some] at this
  exact this
theorem spec_uniq {ts len p q : List Int} (ok : N.Ok) (hts : N.ours.length ≤ ts.length) (hlen : N.ls.length ≤ len.length) (hp : p.length = N.m) (hq : q.length = N.m) (sp : PlaySpec N ts len p) (sq : PlaySpec N ts len q) : p = q := by
  have h1 : ∀ x : Int, 0 ≤ x → x < N.m → x ∉ N.ends → av p x = av q x := fun x a b c => by
    obtain ⟨y, hy⟩ := mem_zip_l hts x (mem_ours.mpr ⟨⟨a, b⟩, c⟩)
    rw [sp.ours _ hy, sq.ours _ hy]
  refine av_ext hp hq fun x a b => ?_
  by_cases c : x ∈ N.ends
  · obtain ⟨l, hl, rfl⟩ := List.mem_map.mp c
    obtain ⟨y, hy⟩ := mem_zip_l hlen l hl
    have := ok.lk l hl
    rw [sp.ends _ hy, sq.ends _ hy, h1 l.1 this.1 this.2.1 (ok.src l hl)]
  · exact h1 x a b c
theorem zip_map_self {α : Type} (f : α → Int) : ∀ {xs : List α} {z : α × Int}, z ∈ xs.zip (xs.map f) → z.2 = f z.1
  | [], _, h => by simp at h
  | x :: xs, z, h => by
    rw [List.map_cons, List.zip_cons_cons] at h
    rcases List.mem_cons.mp h with rfl | h
    · rfl
    · exact zip_map_self f h
/-- a play that is what it tells -/
theorem play_self {p : List Int} (ok : N.Ok) (hp : p.length = N.m) : N.play (N.ours.map (av p)) (N.ls.map fun l => av p l.2.1 - av p l.1) = p := by
  refine spec_uniq ok (by simp) (by simp) (length_play ..) hp (play_spec ok _ _) ⟨fun z hz => ?_, fun z hz => ?_⟩
  · rw [zip_map_self (av p) hz]
  · rw [zip_map_self (fun l : Lk => av p l.2.1 - av p l.1) hz]; omega
theorem list_of_zip {α : Type} (f : α → Int) : ∀ {xs : List α} {ys : List Int}, xs.length = ys.length → (∀ z ∈ xs.zip ys, f z.1 = z.2) → xs.map f = ys
  | [], [], _, _ => rfl
  | [], _ :: _, h, _ => by simp at h
  | _ :: _, [], h, _ => by simp at h
  | x :: xs, y :: ys, hl, h => by
    rw [List.map_cons, h (x, y) List.mem_cons_self, list_of_zip f (by simpa using hl) fun z hz => h z (List.mem_cons_of_mem _ hz)]
theorem play_ours {ts len : List Int} (ok : N.Ok) (h : N.ours.length = ts.length) : N.ours.map (av (N.play ts len)) = ts := list_of_zip _ h (play_spec ok ts len).ours
theorem play_lens {ts len : List Int} (ok : N.Ok) (h : N.ls.length = len.length) : N.ls.map (fun l => av (N.play ts len) l.2.1 - av (N.play ts len) l.1) = len :=
  list_of_zip (fun l : Lk => av (N.play ts len) l.2.1 - av (N.play ts len) l.1) h fun z hz => by have := (play_spec ok ts len).ends z hz; omega

/-! what bars -/
def barL (p : List Int) : Nat → List Lk → Option D
  | _, [] => none
  | k, l :: ls => if l.2.2.1 ≤ av p l.2.1 - av p l.1 ∧ av p l.2.1 - av p l.1 ≤ l.2.2.2 then barL p (k + 1) ls else some (.tup [.str "link", .int (k : Nat)])
def barG (p : List Int) : Nat → List Gp → Option D
  | _, [] => none
  | k, g :: gs => if av p g.2.1 - av p g.1 ≤ g.2.2 then barG p (k + 1) gs else some (.tup [.str "gap", .int (k : Nat)])
def Net.bar (N : Net) (p : List Int) : D := ((barL p 0 N.ls).or (barG p 0 N.gs)).getD .non
def letB (p : List Int) (l : Lk) : Bool := decide (l.2.2.1 ≤ av p l.2.1 - av p l.1 ∧ av p l.2.1 - av p l.1 ≤ l.2.2.2)
def keptB (p : List Int) (g : Gp) : Bool := decide (av p g.2.1 - av p g.1 ≤ g.2.2)
def Net.good (N : Net) (p : List Int) : Bool := N.ls.all (letB p) && N.gs.all (keptB p)
theorem barL_none {p : List Int} : ∀ {ls : List Lk} {k : Nat}, (barL p k ls).isNone = ls.all (letB p)
  | [], _ => rfl
  | l :: ls, k => by
    simp only [barL, List.all_cons, letB]
    split
    · rename_i h; rw [barL_none]; simp [h, letB]
    · rename_i h; simp [h]
theorem barG_none {p : List Int} : ∀ {ls : List Gp} {k : Nat}, (barG p k ls).isNone = ls.all (keptB p)
  | [], _ => rfl
  | l :: ls, k => by
    simp only [barG, List.all_cons, keptB]
    split
    · rename_i h; rw [barG_none]; simp [h, keptB]
    · rename_i h; simp [h]
theorem barL_tup {p : List Int} : ∀ {ls : List Lk} {k : Nat} {d : D}, barL p k ls = some d → ∃ i : Nat, d = .tup [.str "link", .int i]
  | [], _, _, h => by cases h
  | l :: ls, k, d, h => by
    simp only [barL] at h
    split at h
    · exact barL_tup h
    · cases h; exact ⟨k, rfl⟩
theorem barG_tup {p : List Int} : ∀ {ls : List Gp} {k : Nat} {d : D}, barG p k ls = some d → ∃ i : Nat, d = .tup [.str "gap", .int i]
  | [], _, _, h => by cases h
  | l :: ls, k, d, h => by
    simp only [barG] at h
    split at h
    · exact barG_tup h
    · cases h; exact ⟨k, rfl⟩
theorem bar_cases (N : Net) (p : List Int) : (N.good p = true ∧ N.bar p = .non) ∨ (N.good p = false ∧ ∃ (s : Str) (i : Nat), (s = "link" ∨ s = "gap") ∧ N.bar p = .tup [.str s, .int i]) := by
  have e1 := barL_none (p := p) (ls := N.ls) (k := 0)
  have e2 := barG_none (p := p) (ls := N.gs) (k := 0)
  unfold Net.good Net.bar
  rw [← e1, ← e2]
  cases h1 : barL p 0 N.ls with
  | some d => obtain ⟨i, rfl⟩ := barL_tup h1; exact .inr ⟨rfl, "link", i, .inl rfl, rfl⟩
  | none =>
    cases h2 : barG p 0 N.gs with
    | some d => obtain ⟨i, rfl⟩ := barG_tup h2; exact .inr ⟨rfl, "gap", i, .inr rfl, rfl⟩
    | none => exact .inl ⟨rfl, rfl⟩
theorem bar_isNon (N : Net) (p : List Int) : isNonD (N.bar p) = N.good p := by
  rcases bar_cases N p with ⟨h1, h2⟩ | ⟨h1, s, i, _, h2⟩ <;> rw [h1, h2] <;> rfl

/-! all lengths, all plays -/
def Net.worlds (N : Net) : List (List Int) := Pl.box [[]] (N.ls.map fun l => (l.2.2.1, l.2.2.2 + 1))
def Net.rows (N : Net) (most : Int) : List (List Int) := Pl.box [[0]] ((N.ours.drop 1).map fun _ => ((0 : Int), most + 1))
def Net.plays (N : Net) (most : Int) : List (List Int) := Pl.box [[0]] ((Pl.irange 1 N.m).map fun x => ((0 : Int), if x ∈ N.ours then most + 1 else most + 5))
theorem inB_map {α : Type} (f : α → Int) (g : α → Int × Int) : ∀ {xs : List α}, Pl.inB (xs.map f) (xs.map g) ↔ ∀ x ∈ xs, (g x).1 ≤ f x ∧ f x < (g x).2
  | [] => by simp [Pl.inB]
  | x :: xs => by simp only [List.map_cons, Pl.inB, inB_map f g, List.forall_mem_cons]
theorem inB_const {lo hi : Int} {α : Type} : ∀ {us : List Int} {xs : List α}, Pl.inB us (xs.map fun _ => (lo, hi)) ↔ us.length = xs.length ∧ ∀ u ∈ us, lo ≤ u ∧ u < hi
  | [], [] => by simp [Pl.inB]
  | [], _ :: _ => by simp [Pl.inB]
  | _ :: _, [] => by simp [Pl.inB]
  | u :: us, x :: xs => by
    simp only [List.map_cons, Pl.inB, inB_const, List.length_cons, List.forall_mem_cons, Nat.add_right_cancel_iff]
    constructor
    · rintro ⟨a, b, c⟩; exact ⟨b, a, c⟩
    · rintro ⟨a, b, c⟩; exact ⟨b, a, c⟩
theorem zero_ours (ok : N.Ok) : (0 : Int) ∈ N.ours := mem_ours.mpr ⟨⟨by omega, by have := ok.m2; omega⟩, fun h => by
  obtain ⟨l, hl, e⟩ := List.mem_map.mp h
  have := ok.lk l hl
  omega⟩
theorem ours_cons (ok : N.Ok) : N.ours = 0 :: N.ours.drop 1 := by
  have h0 := zero_ours ok
  have hs := ours_asc (N := N)
  have hn : ∀ x ∈ N.ours, 0 ≤ x := fun x hx => (mem_ours.mp hx).1.1
  cases e : N.ours with
  | nil => rw [e] at h0; cases h0
  | cons x xs =>
    rw [e] at h0 hs hn
    rw [List.pairwise_cons] at hs
    have : x = 0 := by
      rcases List.mem_cons.mp h0 with h | h
      · exact h.symm
      · have a := hs.1 0 h
        have b := hn x List.mem_cons_self
        omega
    subst this
    rfl
theorem all_cons (ok : N.Ok) : N.all = 0 :: Pl.irange 1 N.m := by
  have := ok.m2
  unfold Net.all Pl.irange
  rw [show N.m = ((N.m : Int) - 1).toNat + 1 by omega, List.range_succ_eq_map]
  simp [List.map_map, Function.comp_def]
  omega
theorem play_list {p : List Int} {m : Nat} (h : p.length = m) : p = ((List.range m).map fun i => ((i : Nat) : Int)).map (av p) := by
  refine List.ext_getElem (by simp [h]) fun i h1 h2 => ?_
  simp [av, List.getD_eq_getElem?_getD, List.getElem?_eq_getElem h1]
theorem mem_worlds {w : List Int} : w ∈ N.worlds ↔ Pl.inB w (N.ls.map fun l => (l.2.2.1, l.2.2.2 + 1)) := by
  unfold Net.worlds
  rw [Pl.mem_box]
  constructor
  · rintro ⟨p, hp, u, rfl, hu⟩
    simp only [List.mem_singleton] at hp; subst hp
    exact hu
  · intro h; exact ⟨[], by simp, w, rfl, h⟩
theorem worlds_len {w : List Int} (h : w ∈ N.worlds) : w.length = N.ls.length := by
  have := Pl.inB_len (mem_worlds.mp h)
  simpa using this
theorem mem_rows {most : Int} (ok : N.Ok) {r : List Int} : r ∈ N.rows most ↔ ∃ u, r = 0 :: u ∧ u.length + 1 = N.ours.length ∧ ∀ x ∈ u, 0 ≤ x ∧ x < most + 1 := by
  have hc := congrArg List.length (ours_cons ok)
  simp only [List.length_cons] at hc
  unfold Net.rows
  rw [Pl.mem_box]
  constructor
  · rintro ⟨p, hp, u, rfl, hu⟩
    simp only [List.mem_singleton] at hp; subst hp
    rw [inB_const] at hu
    exact ⟨u, rfl, by omega, hu.2⟩
  · rintro ⟨u, rfl, h1, h2⟩
    exact ⟨[0], by simp, u, rfl, inB_const.mpr ⟨by omega, h2⟩⟩
theorem mem_plays {most : Int} (ok : N.Ok) {p : List Int} : p ∈ N.plays most ↔ p.length = N.m ∧ av p 0 = 0 ∧ ∀ x : Int, 1 ≤ x → x < N.m → 0 ≤ av p x ∧ av p x < (if x ∈ N.ours then most + 1 else most + 5) := by
  have h2 := ok.m2
  unfold Net.plays
  rw [Pl.mem_box]
  have cut : ∀ q : List Int, q.length = N.m → q = av q 0 :: (Pl.irange 1 N.m).map (av q) := fun q hq => by
    have := play_list hq
    have e := all_cons ok
    unfold Net.all at e
    rw [e] at this
    simpa using this
  constructor
  · rintro ⟨q, hq, u, rfl, hu⟩
    simp only [List.mem_singleton] at hq; subst hq
    have hl := Pl.inB_len hu
    simp only [List.length_map, Pl.length_irange] at hl
    have hlen : ([0] ++ u).length = N.m := by simp; omega
    refine ⟨hlen, rfl, fun x a b => ?_⟩
    have e := cut _ hlen
    have e2 : u = (Pl.irange 1 N.m).map (av ([0] ++ u)) := by
      have := congrArg List.tail e
      simpa using this
    rw [e2] at hu
    have := (inB_map (av ([0] ++ u)) (fun x => ((0 : Int), if x ∈ N.ours then most + 1 else most + 5))).mp hu x (Pl.mem_irange.mpr ⟨a, b⟩)
    exact this
  · rintro ⟨hl, h0, h⟩
    refine ⟨[0], by simp, (Pl.irange 1 N.m).map (av p), ?_, (inB_map _ _).mpr fun x hx => ?_⟩
    · have := cut p hl
      rw [h0] at this
      exact this
    · rw [Pl.mem_irange] at hx
      exact h x hx.1 hx.2
theorem worlds_asc : N.worlds.Pairwise (· < ·) := Pl.box_sorted (n := 0) (by simp) (by simp)
theorem rows_asc (most : Int) : (N.rows most).Pairwise (· < ·) := Pl.box_sorted (n := 1) (by simp) (by simp)
theorem plays_asc (most : Int) : (N.plays most).Pairwise (· < ·) := Pl.box_sorted (n := 1) (by simp) (by simp)
/-- kept plays are what trying all tells -/
theorem kept_perm (ok : N.Ok) (most : Int) (hs : ∀ l ∈ N.ls, l.2.2.2 ≤ 4) (hm : 0 ≤ most) :
    (((N.rows most).flatMap fun r => N.worlds.map fun w => N.play r w).filter N.good).Perm ((N.plays most).filter N.good) := by
  have hc := congrArg List.length (ours_cons ok)
  simp only [List.length_cons] at hc
  have rl : ∀ r ∈ N.rows most, N.ours.length = r.length := fun r hr => by
    obtain ⟨u, rfl, h, _⟩ := (mem_rows ok).mp hr
    simp; omega
  refine (List.perm_ext_iff_of_nodup ?_ ?_).mpr fun p => ?_
  · refine List.Pairwise.filter _ ?_
    have e : ((N.rows most).flatMap fun r => N.worlds.map fun w => N.play r w) = ((N.rows most).flatMap fun r => N.worlds.map fun w => (r, w)).map fun z => N.play z.1 z.2 := by
      simp [List.map_flatMap, Function.comp_def]
    rw [e]
    refine Pl.nodup_map_inj (Pl.nodup_prod (Pl.nodup_of_lt (rows_asc most)) (Pl.nodup_of_lt worlds_asc)) fun a ha b hb hab => ?_
    obtain ⟨r, hr, ha⟩ := List.mem_flatMap.mp ha
    obtain ⟨w, hw, rfl⟩ := List.mem_map.mp ha
    obtain ⟨r', hr', hb⟩ := List.mem_flatMap.mp hb
    obtain ⟨w', hw', rfl⟩ := List.mem_map.mp hb
    simp only at hab
    have h1 := play_ours (len := w) ok (rl r hr)
    have h2 := play_ours (len := w') ok (rl r' hr')
    have h3 := play_lens (ts := r) ok (worlds_len hw).symm
    have h4 := play_lens (ts := r') ok (worlds_len hw').symm
    rw [hab] at h1 h3
    rw [← h1, ← h3, h2, h4]
  · exact List.Pairwise.filter _ (Pl.nodup_of_lt (plays_asc most))
  · simp only [List.mem_filter, List.mem_flatMap, List.mem_map]
    constructor
    · rintro ⟨⟨r, hr, w, hw, rfl⟩, hg⟩
      refine ⟨(mem_plays ok).mpr ⟨length_play .., ?_, fun x a b => ?_⟩, hg⟩
      · have e := play_ours (len := w) ok (rl r hr)
        obtain ⟨u, rfl, _, _⟩ := (mem_rows ok).mp hr
        rw [ours_cons ok] at e
        exact (List.cons.inj e).1
      · have e := play_ours (len := w) ok (rl r hr)
        have ho : ∀ y ∈ N.ours, 0 ≤ av (N.play r w) y ∧ av (N.play r w) y < most + 1 := fun y hy => by
          have : av (N.play r w) y ∈ r := by rw [← e]; exact List.mem_map.mpr ⟨y, hy, by rw [e]⟩
          obtain ⟨u, rfl, _, h⟩ := (mem_rows ok).mp hr
          rcases List.mem_cons.mp this with h' | h'
          · rw [h']; omega
          · exact h _ h'
        by_cases hx : x ∈ N.ours
        · rw [if_pos hx]; exact ho x hx
        · rw [if_neg hx]
          have hE : x ∈ N.ends := by
            refine Classical.byContradiction fun hn => hx (mem_ours.mpr ⟨⟨by omega, b⟩, hn⟩)
          obtain ⟨l, hl, rfl⟩ := List.mem_map.mp hE
          obtain ⟨y, hy⟩ := mem_zip_l (Nat.le_of_eq (worlds_len hw).symm) l hl
          have hsp := (play_spec ok r w).ends _ hy
          have hlk := ok.lk l hl
          have ha := ho l.1 (mem_ours.mpr ⟨⟨hlk.1, hlk.2.1⟩, ok.src l hl⟩)
          simp only [Net.good, Bool.and_eq_true, List.all_eq_true] at hg
          have hlet := hg.1 l hl
          simp only [letB, decide_eq_true_eq] at hlet
          have := hs l hl
          omega
    · rintro ⟨hp, hg⟩
      obtain ⟨hl, h0, h⟩ := (mem_plays ok).mp hp
      refine ⟨⟨N.ours.map (av p), (mem_rows ok).mpr ⟨(N.ours.drop 1).map (av p), ?_, by simp; simp at hc; omega, fun y hy => ?_⟩, N.ls.map fun l => av p l.2.1 - av p l.1, mem_worlds.mpr ((inB_map _ _).mpr fun l hl' => ?_), play_self ok hl⟩, hg⟩
      · conv => lhs; rw [ours_cons ok, List.map_cons, h0]
      · obtain ⟨x, hx, rfl⟩ := List.mem_map.mp hy
        have hxo : x ∈ N.ours := List.mem_of_mem_drop hx
        have hpos : 1 ≤ x := by
          have hs := ours_asc (N := N)
          rw [ours_cons ok, List.pairwise_cons] at hs
          have := hs.1 x hx
          omega
        have := h x hpos (mem_ours.mp hxo).1.2
        rw [if_pos hxo] at this
        exact this
      · simp only [Net.good, Bool.and_eq_true, List.all_eq_true] at hg
        have hlet := hg.1 l hl'
        simp only [letB, decide_eq_true_eq] at hlet
        exact ⟨hlet.1, by show _ < _ + 1; omega⟩
end
end VI
set_option maxHeartbeats 4000000
/-! dicts of ints as lists of pairs; rings and least times in plain words -/
namespace VI
open PySem PySem.Spec PyProof.Rows L2
section
variable {β : Type}
def lk (f : List (Int × β)) (x : Int) : Option β := (f.find? fun z => decide (z.1 = x)).map (·.2)
def putL (f : List (Int × β)) (x : Int) (v : β) : List (Int × β) := if (f.any fun z => decide (z.1 = x)) = true then f.map (fun z => if z.1 = x then (z.1, v) else z) else f ++ [(x, v)]
def encF (e : β → D) (f : List (Int × β)) : List (Key × D) := f.map fun z => (.inl z.1, e z.2)
theorem lk_nil (x : Int) : lk ([] : List (Int × β)) x = none := rfl
theorem lk_cons (z : Int × β) (f : List (Int × β)) (x : Int) : lk (z :: f) x = if z.1 = x then some z.2 else lk f x := by
  unfold lk
  rw [List.find?_cons]
  by_cases h : z.1 = x <;> simp [h]
theorem lk_app (f g : List (Int × β)) (x : Int) : lk (f ++ g) x = (lk f x).or (lk g x) := by
  induction f with
  | nil => simp [lk_nil]
  | cons z f ih =>
    rw [List.cons_append, lk_cons, lk_cons, ih]
    by_cases h : z.1 = x <;> simp [h]
theorem lk_some {f : List (Int × β)} {x : Int} : (lk f x).isSome = true ↔ x ∈ f.map (·.1) := by
  induction f with
  | nil => simp [lk_nil]
  | cons z f ih =>
    rw [lk_cons, List.map_cons, List.mem_cons]
    by_cases h : z.1 = x
    · simp [h]
    · simp only [h, if_false, ih]
      constructor
      · exact .inr
      · rintro (e | e)
        · exact absurd e.symm h
        · exact e
theorem any_lk {f : List (Int × β)} {x : Int} : (f.any fun z => decide (z.1 = x)) = (lk f x).isSome := by
  induction f with
  | nil => rfl
  | cons z f ih =>
    rw [List.any_cons, lk_cons, ih]
    by_cases h : z.1 = x <;> simp [h]
theorem lk_put (f : List (Int × β)) (x : Int) (v : β) (y : Int) : lk (putL f x v) y = if x = y then some v else lk f y := by
  unfold putL
  rw [any_lk]
  split
  · rename_i h
    have key : ∀ f : List (Int × β), lk (f.map fun z => if z.1 = x then (z.1, v) else z) y = if x = y then (lk f x).map (fun _ => v) else lk f y := by
      intro f
      induction f with
      | nil => simp [lk_nil]
      | cons z f ih =>
        rw [List.map_cons, lk_cons, ih]
        by_cases h1 : z.1 = x
        · by_cases h2 : x = y
          · subst h2; simp [h1, lk_cons]
          · have : ¬ z.1 = y := fun e => h2 (h1.symm.trans e)
            simp [h1, h2, lk_cons]
        · by_cases h2 : x = y
          · subst h2; simp [h1, lk_cons]
          · simp only [h1, if_false, h2, lk_cons]
    rw [key f]
    obtain ⟨w, hw⟩ := Option.isSome_iff_exists.mp h
    rw [hw]; rfl
  · rename_i h
    rw [lk_app, lk_cons, lk_nil]
    by_cases h2 : x = y
    · subst h2
      have : lk f x = none := by simpa using h
      simp [this]
    · simp [h2]
theorem put_keys {f : List (Int × β)} {x : Int} {v : β} (hd : (f.map (·.1)).Nodup) : ((putL f x v).map (·.1)).Nodup := by
  unfold putL
  rw [any_lk]
  split
  · have : (f.map fun z => if z.1 = x then (z.1, v) else z).map (·.1) = f.map (·.1) := by
      rw [List.map_map]
      refine List.map_congr_left fun z _ => ?_
      simp only [Function.comp_apply]
      split <;> rfl
    rw [this]; exact hd
  · rename_i h
    rw [List.map_append, List.nodup_append]
    refine ⟨hd, by simp, ?_⟩
    intro a ha b hb e
    simp only [List.map_cons, List.map_nil, List.mem_singleton] at hb
    subst hb; subst e
    exact h (lk_some.mpr ha)
theorem put_len (f : List (Int × β)) (x : Int) (v : β) : f.length ≤ (putL f x v).length ∧ (putL f x v).length ≤ f.length + 1 := by
  unfold putL
  split <;> simp
theorem valD_enc (e : β → D) (f : List (Int × β)) (x : Int) : valD (encF e f) (.inl x) = (lk f x).map e := by
  induction f with
  | nil => rfl
  | cons z f ih =>
    unfold valD encF at ih ⊢
    rw [List.map_cons, List.find?_cons, lk_cons]
    by_cases h : z.1 = x
    · simp [h]
    · have : ¬ (Sum.inl z.1 : Key) = .inl x := fun e => h (Sum.inl.inj e)
      simp only [this, decide_false, h, if_false]
      exact ih
theorem putD_enc (e : β → D) (f : List (Int × β)) (x : Int) (v : β) : putD (encF e f) (.inl x) (e v) = encF e (putL f x v) := by
  have ha : ((encF e f).any fun kv => decide (kv.1 = .inl x)) = f.any fun z => decide (z.1 = x) := by
    unfold encF
    rw [List.any_map]
    congr 1
    funext z
    simp
  unfold putD putL
  rw [ha]
  split
  · unfold encF
    rw [List.map_map, List.map_map]
    refine List.map_congr_left fun z _ => ?_
    simp only [Function.comp_apply]
    by_cases h : z.1 = x <;> simp [h]
  · unfold encF; rw [List.map_append]; rfl
variable {st : Mem} {n : Nat} {e : β → D} {f : List (Int × β)}
theorem inD_enc (h : st[n]? = some (.dK (encF e f))) (x : Int) : inD (.int x) (.loc n) st = .ok (.bl (lk f x).isSome) st := by
  unfold inD memD
  simp only [seqD, h, getD', keyD, Option.map_some, valD_enc, Option.isSome_map]
theorem ixD_enc (h : st[n]? = some (.dK (encF e f))) {x : Int} {v : β} (hv : lk f x = some v) : ixD (.loc n) (.int x) st = .ok (e v) st := by
  unfold ixD
  simp only [seqD, h, getD', keyD, Option.map_some, valD_enc, hv]
theorem lenD_enc (h : st[n]? = some (.dK (encF e f))) : lenD (.loc n) st = .ok (.int (f.length : Nat)) st := by
  unfold lenD
  simp only [h, encF, List.length_map]
theorem setD_enc (h : st[n]? = some (.dK (encF e f))) (x : Int) (v : β) (hl : f.length ≤ 100000) : setD (.loc n) (.int x) (e v) st = some (st.set n (.dK (encF e (putL f x v)))) := by
  have : (encF e f).length < LINE := by
    have : (encF e f).length = f.length := by simp [encF]
    show _ < 16777216
    omega
  unfold setD
  simp only [h, this, if_true, keyD, Option.map_some, putD_enc]
end
theorem nodup_le {L M : List Int} (hL : L.Nodup) (hM : M.Nodup) (h : ∀ x ∈ L, x ∈ M) : L.length ≤ M.length := by
  have p : L.Perm (M.filter fun x => decide (x ∈ L)) := (List.perm_ext_iff_of_nodup hL (List.Pairwise.filter _ hM)).mpr fun x => by
    rw [List.mem_filter, decide_eq_true_eq]
    exact ⟨fun hx => ⟨h x hx, hx⟩, And.right⟩
  rw [p.length_eq]
  exact List.length_filter_le _ _
theorem sum_lt {f g : Int → Nat} : ∀ {l : List Int} {x : Int}, x ∈ l → (∀ y ∈ l, g y ≤ f y) → g x < f x → (l.map g).sum < (l.map f).sum
  | [], _, h, _, _ => by cases h
  | a :: l, x, h, hle, hlt => by
    simp only [List.map_cons, List.sum_cons]
    have h2 : ∀ {l : List Int}, (∀ y ∈ l, g y ≤ f y) → (l.map g).sum ≤ (l.map f).sum := by
      intro l
      induction l with
      | nil => intro _; exact Nat.le_refl _
      | cons b l ih =>
        intro hb
        simp only [List.map_cons, List.sum_cons]
        have := hb b List.mem_cons_self
        have := ih fun y hy => hb y (List.mem_cons_of_mem _ hy)
        omega
    rcases List.mem_cons.mp h with rfl | h
    · have := h2 fun y hy => hle y (List.mem_cons_of_mem _ hy)
      omega
    · have h3 := sum_lt h (fun y hy => hle y (List.mem_cons_of_mem _ hy)) hlt
      have := hle a List.mem_cons_self
      omega
theorem sum_le_mul {f : Int → Nat} {K : Nat} : ∀ {l : List Int}, (∀ y ∈ l, f y ≤ K) → (l.map f).sum ≤ l.length * K
  | [], _ => by simp
  | a :: l, h => by
    simp only [List.map_cons, List.sum_cons, List.length_cons, Nat.add_mul, Nat.one_mul]
    have := h a List.mem_cons_self
    have := sum_le_mul (l := l) fun y hy => h y (List.mem_cons_of_mem _ hy)
    omega

/-! rows, rings -/
abbrev Nm := Str × Int
abbrev Rw := Nm × Int × Int × Int
def nmD (n : Nm) : D := .tup [.str n.1, .int n.2]
def gp3 (g : Int × Int × Int) : D := .tup [.int g.1, .int g.2.1, .int g.2.2]
def rwD (r : Rw) : D := .tup [nmD r.1, gp3 r.2]
abbrev Ah := List (Int × (Nm × Int))
def ahD (z : Nm × Int) : D := .tup [nmD z.1, .int z.2]
abbrev Tmd := List (Int × Int)
def tv (T : Tmd) (x : Int) : Int := (lk T x).getD 0
/-- rows in a chain from a moment to a moment -/
def Chain (rs : List Rw) : List Rw → Int → Int → Prop
  | [], a, b => a = b
  | r :: G, a, b => r ∈ rs ∧ r.2.1 = a ∧ Chain rs G r.2.2.1 b
def dsum (G : List Rw) : Int := (G.map fun r => r.2.2.2).sum
/-- names round a ring that bars -/
def RingOk (rs : List Rw) (ns : List Nm) : Prop := ∃ G x, G ≠ [] ∧ Chain rs G x x ∧ dsum G < 0 ∧ G.map (·.1) = ns ∧ ns.length ≤ 20
theorem chain_app {rs : List Rw} : ∀ {G H : List Rw} {a b c : Int}, Chain rs G a b → Chain rs H b c → Chain rs (G ++ H) a c
  | [], _, _, _, _, h, h2 => by rw [show _ = _ from h]; exact h2
  | r :: G, H, a, b, c, h, h2 => ⟨h.1, h.2.1, chain_app h.2.2 h2⟩
theorem dsum_app (G H : List Rw) : dsum (G ++ H) = dsum G + dsum H := by simp [dsum]
/-- how many rows lead from a moment to the begin -/
def Rk (A : Ah) : Nat → Int → Prop
  | 0, z => z = 0 ∧ lk A z = none
  | k + 1, z => ∃ nm w, lk A z = some (nm, w) ∧ Rk A k w
theorem rk_uniq {A : Ah} : ∀ {k j : Nat} {z : Int}, Rk A k z → Rk A j z → k = j
  | 0, 0, _, _, _ => rfl
  | 0, j + 1, z, h, ⟨nm, w, e, _⟩ => by rw [h.2] at e; cases e
  | k + 1, 0, z, ⟨nm, w, e, _⟩, h => by rw [h.2] at e; cases e
  | k + 1, j + 1, z, ⟨nm, w, e, h⟩, ⟨nm', w', e', h'⟩ => by
    rw [e] at e'
    cases e'
    rw [rk_uniq h h']
theorem rk_path {A : Ah} : ∀ {k : Nat} {z : Int}, Rk A k z → ∃ L : List Int, L.length = k ∧ L.Nodup ∧ ∀ u ∈ L, u ∈ A.map (·.1) ∧ ∃ j, j ≤ k ∧ 1 ≤ j ∧ Rk A j u
  | 0, z, _ => ⟨[], rfl, List.nodup_nil, by simp⟩
  | k + 1, z, ⟨nm, w, e, h⟩ => by
    obtain ⟨L, hl, hd, hm⟩ := rk_path h
    refine ⟨z :: L, by simp [hl], ?_, fun u hu => ?_⟩
    · rw [List.nodup_cons]
      refine ⟨fun hz => ?_, hd⟩
      obtain ⟨_, j, hj, _, hr⟩ := hm z hz
      have := rk_uniq hr (show Rk A (k + 1) z from ⟨nm, w, e, h⟩)
      omega
    · rcases List.mem_cons.mp hu with rfl | hu
      · exact ⟨lk_some.mp (by rw [e]; rfl), k + 1, Nat.le_refl _, by omega, nm, w, e, h⟩
      · obtain ⟨a, j, b, c, d⟩ := hm u hu
        exact ⟨a, j, by omega, c, d⟩
theorem rk_le {A : Ah} {k : Nat} {z : Int} (hd : (A.map (·.1)).Nodup) (h : Rk A k z) : k ≤ A.length := by
  obtain ⟨L, hl, hn, hm⟩ := rk_path h
  rw [← hl, ← List.length_map (f := (·.1)) (as := A)]
  exact nodup_le hn hd fun x hx => (hm x hx).1
/-- what is kept while times are led along -/
structure Led (ms : List Int) (rs : List Rw) (T : Tmd) (A : Ah) : Prop where
  tk : ∀ x ∈ ms, (lk T x).isSome = true
  t0 : tv T 0 = 0
  tn : ∀ x ∈ ms, 0 ≤ tv T x
  ad : (A.map (·.1)).Nodup
  am : ∀ x ∈ A.map (·.1), x ∈ ms
  ap : ∀ x nm y, lk A x = some (nm, y) → x ∈ ms ∧ y ∈ ms ∧ ∃ d, (nm, x, y, d) ∈ rs ∧ tv T x ≤ tv T y - d
  rk : ∀ x ∈ ms, ∃ k, Rk A k x
theorem led_bound {ms : List Int} {rs : List Rw} {T : Tmd} {A : Ah} {Dm : Nat} (L : Led ms rs T A) (hD : ∀ r ∈ rs, -(Dm : Int) ≤ r.2.2.2) (hm : ms.Nodup) : ∀ x ∈ ms, tv T x ≤ (ms.length * Dm : Nat) := by
  have key : ∀ (k : Nat) (x : Int), Rk A k x → tv T x ≤ (k * Dm : Nat) := by
    intro k
    induction k with
    | zero => intro x h; rw [h.1, L.t0]; omega
    | succ k ih =>
      intro x ⟨nm, w, e, h⟩
      obtain ⟨_, _, d, hr, ht⟩ := L.ap x nm w e
      have h1 := ih w h
      have h2 := hD _ hr
      simp only at h2
      rw [Nat.add_mul, Nat.one_mul]
      omega
  intro x hx
  obtain ⟨k, hk⟩ := L.rk x hx
  have h1 := key k x hk
  have h2 := rk_le L.ad hk
  have h3 : A.length ≤ ms.length := by
    rw [← List.length_map (f := (·.1)) (as := A)]
    exact nodup_le L.ad hm L.am
  have h4 : k * Dm ≤ ms.length * Dm := Nat.mul_le_mul_right _ (Nat.le_trans h2 h3)
  omega
end VI
set_option maxHeartbeats 4000000
namespace G15
open PySem PySem.Spec PyProof.Rows L2 VI
section
variable {st : Mem} {N : Net}
theorem whole_ok (i : Int) : F_is_whole [.int i] st = .ok (.bl true) st := by
  simp [F_is_whole, bodyF_eq, m_is_whole, startE, mVar]
theorem count_ok {i : Int} (h : 0 ≤ i) : F_is_count [.int i] st = .ok (.bl true) st := by
  simp [F_is_count, bodyF_eq, m_is_count, startE, mVar, whole_ok, geD_int, h]
theorem link_ok {l : Lk} {m : Nat} (h : 0 ≤ l.1 ∧ l.1 < m ∧ 0 < l.2.1 ∧ l.2.1 < m ∧ l.1 ≠ l.2.1 ∧ 1 ≤ l.2.2.1 ∧ l.2.2.1 ≤ l.2.2.2 ∧ l.2.2.2 ≤ 99) : F_is_link [.int m, lkD l] st = .ok (.bl true) st := by
  obtain ⟨a, c, lo, hi⟩ := l
  obtain ⟨h1, h2, h3, h4, h5, h6, h7, h8⟩ := h
  simp only at h1 h2 h3 h4 h5 h6 h7 h8
  have e : mLC finF (mIt (mVar 1)) (gNm 6) (mYes) (mF F_is_count [mVar 6]) [6] [some (.int m), some (.tup [.int a, .int c, .int lo, .int hi]), none, none, none, none, none] st = .ok (trues 4) st :=
    lc_trues (ds := [.int a, .int c, .int lo, .int hi]) (by simp [mVar, lkD]) (by
      intro d hd st'
      simp only [List.mem_cons, List.not_mem_nil, or_false] at hd
      rcases hd with rfl | rfl | rfl | rfl <;> simp only [stepL, wipeE, ap_gNm, ap_yes, Res.noX_ok, Res.ok_bind, if_true, ap_mF, ap_args1, ap_args0, mVar, List.set_cons_succ, List.set_cons_zero, List.getElem?_cons_succ, List.getElem?_cons_zero]
      · rw [count_ok h1]; rfl
      · rw [count_ok (by omega)]; rfl
      · rw [count_ok (by omega)]; rfl
      · rw [count_ok (by omega)]; rfl) (by simp)
  have h5' : (a == c) = false := by simpa using h5
  simp [F_is_link, bodyF_eq, m_is_link, startE, List.replicate, mVar, lkD, e, lenD_tup, neD_int, q_is_link_3, q_is_link_4, ltD_int, leD_int, h2, h3, h4, h5', h6, h7, h8]
theorem links_ok (ok : N.Ok) : F_are_links [.int N.m, .tup (N.ls.map lkD)] st = .ok (.bl true) st := by
  have e1 : mLC finF (mIt (mVar 1)) (gNm 3) (mYes) (mF F_is_link [mVar 0, mVar 3]) [3] [some (.int N.m), some (.tup (N.ls.map lkD)), none, none, none, none] st = .ok (trues N.ls.length) st := by
    rw [lc_trues (ds := N.ls.map lkD) (by simp [mVar]) (fun d hd st' => ?_) (by have := ok.l3; simp; omega), List.length_map]
    obtain ⟨l, hl, rfl⟩ := List.mem_map.mp hd
    simp [stepL, wipeE, mVar, link_ok (ok.lk l hl)]
  have e2 : mLC finF (mIt (mVar 1)) (gNm 3) (mYes) (m2 ixD (mVar 3) (mC (.int 1))) [3] [some (.int N.m), some (.tup (N.ls.map lkD)), none, none, none, none] st = .ok (.lst (N.ends.map .int)) st := by
    rw [lc_mapL (xs := N.ls) (g0 := lkD) (fun l => .int l.2.1) (by simp [mVar]) (fun l hl st' => ?_) (by have := ok.l3; omega) (fun _ _ => rfl)]
    · simp [Net.ends]
    · simp [stepL, wipeE, mVar, lkD, ixd1]
  have e3 : mLC finF (mZip [mVar 2, mSlice mkF (mVar 2) (mPart (mC (.int 1))) mNoPart]) (gTp 2 (gsCons (gNm 4) (gsCons (gNm 5) (gsNil)))) (mYes) (m2 ltD (mVar 4) (mVar 5)) [4, 5] [some (.int N.m), some (.tup (N.ls.map lkD)), some (.lst (N.ends.map .int)), none, none, none] st = .ok (trues (zipD (N.ends.map .int) ((N.ends.map .int).drop 1)).length) st := by
    refine lc_trues (by simp only [ap_zip, ap_args1, ap_args0, ap_slice, ap_part, ap_nopart, mVar, List.getElem?_cons_succ, List.getElem?_cons_zero, Res.ok_bind, ap_c, resI_int, slice_lst, ap_mkF, frz_lst, cut1]) (fun d hd st' => ?_) (by have := ok.l3; simp [zipD, Net.ends]; omega)
    obtain ⟨a, b, _, _, rfl, h⟩ := zip_adj D.int ok.asc d hd
    simp [stepL, wipeE, mVar, ltD_int, h]
  have e4 : mLC finF (mIt (mVar 1)) (gNm 3) (mYes) (m2 inD (m2 ixD (mVar 3) (mC (.int 0))) (mVar 2)) [3] [some (.int N.m), some (.tup (N.ls.map lkD)), some (.lst (N.ends.map .int)), none, none, none] st = .ok (falses N.ls.length) st := by
    rw [lc_falses (ds := N.ls.map lkD) (by simp [mVar]) (fun d hd st' => ?_) (by have := ok.l3; simp; omega), List.length_map]
    obtain ⟨l, hl, rfl⟩ := List.mem_map.mp hd
    simp [stepL, wipeE, mVar, lkD, ixd0, inD_lst, ok.src l hl]
  have h3 : ¬ (3 : Int) < N.ls.length := by have := ok.l3; omega
  simp [F_are_links, bodyF_eq, m_are_links, startE, List.replicate, mVar, lenD_tup, gtD_int, e1, h3, q_are_links_3, e2, q_are_links_4, e3, q_are_links_6, e4]
theorem gap_ok {g : Gp} {m : Nat} (h : 0 ≤ g.1 ∧ g.1 < m ∧ 0 ≤ g.2.1 ∧ g.2.1 < m ∧ g.1 ≠ g.2.1 ∧ -99 ≤ g.2.2 ∧ g.2.2 ≤ 99) : F_is_gap [.int m, gpD g] st = .ok (.bl true) st := by
  obtain ⟨x, y, d⟩ := g
  obtain ⟨h1, h2, h3, h4, h5, h6, h7⟩ := h
  simp only at h1 h2 h3 h4 h5 h6 h7
  have e : mLC finF (mIt (mSlice mkF (mVar 1) mNoPart (mPart (mC (.int 2))))) (gNm 2) (mYes) (mAndV (mF F_is_count [mVar 2]) (m2 ltD (mVar 2) (mVar 0))) [2] [some (.int m), some (.tup [.int x, .int y, .int d]), none] st = .ok (trues 2) st :=
    lc_trues (ds := [.int x, .int y]) (by simp [mVar, cutTo2]) (by
      intro d hd st'
      simp only [List.mem_cons, List.not_mem_nil, or_false] at hd
      rcases hd with rfl | rfl
      · simp [stepL, wipeE, mVar, count_ok h1, ltD_int, h2]
      · simp [stepL, wipeE, mVar, count_ok h3, ltD_int, h4]) (by simp)
  have h5' : (x == y) = false := by simpa using h5
  simp [F_is_gap, bodyF_eq, m_is_gap, startE, List.replicate, mVar, gpD, e, lenD_tup, neD_int, q_is_gap_3, ixd0, ixd1, ixd2, whole_ok, leD_int, h5', h6, h7]
theorem gaps_ok (ok : N.Ok) : F_are_gaps [.int N.m, .tup (N.gs.map gpD)] st = .ok (.bl true) st := by
  have e1 : mLC finF (mIt (mVar 1)) (gNm 2) (mYes) (mF F_is_gap [mVar 0, mVar 2]) [2] [some (.int N.m), some (.tup (N.gs.map gpD)), none, none, none] st = .ok (trues N.gs.length) st := by
    rw [lc_trues (ds := N.gs.map gpD) (by simp [mVar]) (fun d hd st' => ?_) (by have := ok.g15; simp; omega), List.length_map]
    obtain ⟨l, hl, rfl⟩ := List.mem_map.mp hd
    simp [stepL, wipeE, mVar, gap_ok (ok.gp l hl)]
  have e3 : mLC finF (mZip [mVar 1, mSlice mkF (mVar 1) (mPart (mC (.int 1))) mNoPart]) (gTp 2 (gsCons (gNm 3) (gsCons (gNm 4) (gsNil)))) (mYes) (m2 ltD (mSlice mkF (mVar 3) mNoPart (mPart (mC (.int 2)))) (mSlice mkF (mVar 4) mNoPart (mPart (mC (.int 2))))) [3, 4] [some (.int N.m), some (.tup (N.gs.map gpD)), none, none, none] st = .ok (trues (zipD (N.gs.map gpD) ((N.gs.map gpD).drop 1)).length) st := by
    refine lc_trues (by simp only [ap_zip, ap_args1, ap_args0, ap_slice, ap_part, ap_nopart, mVar, List.getElem?_cons_succ, List.getElem?_cons_zero, Res.ok_bind, ap_c, resI_int, slice_tup, frz_tup, cut1]) (fun d hd st' => ?_) (by have := ok.g15; simp [zipD]; omega)
    obtain ⟨a, b, _, _, rfl, h⟩ := zip_adj gpD ok.gasc d hd
    simp [stepL, wipeE, mVar, gpD, cutTo2, ltD, tltD, intsD, h]
  have h3 : ¬ (15 : Int) < N.gs.length := by have := ok.g15; omega
  simp [F_are_gaps, bodyF_eq, m_are_gaps, startE, List.replicate, mVar, lenD_tup, gtD_int, e1, h3, q_are_gaps_3, e3]
theorem net_ok (ok : N.Ok) : F_is_network_in [N.d] st = .ok (.bl true) st := by
  have h2 : (2 : Int) ≤ N.m := by have := ok.m2; omega
  have h6 : (N.m : Int) ≤ 6 := by have := ok.m6; omega
  simp [F_is_network_in, bodyF_eq, m_is_network_in, startE, List.replicate, mVar, isiN, lenN, neD_int, N.ix0, N.ix1, N.ix2, whole_ok, leD_int, h2, h6, q_is_network_in_3, links_ok ok, gaps_ok ok]
theorem need_net (ok : N.Ok) : F_need_network [N.d] st = .ok .non st := by
  simp [F_need_network, bodyF_eq, m_need_network, startE, List.replicate, mVar, net_ok ok]
theorem ends_in_eq (ok : N.Ok) : F_ends_in [N.d] st = .ok (.lst (N.ends.map .int)) st := by
  have e : mLC finF (mIt (m2 ixD (mVar 0) (mC (.int 1)))) (gNm 1) (mYes) (m2 ixD (mVar 1) (mC (.int 1))) [1] [some N.d, none] st = .ok (.lst (N.ends.map .int)) st := by
    rw [lc_mapL (xs := N.ls) (g0 := lkD) (fun l => .int l.2.1) (by simp [mVar, N.ix1]) (fun l hl st' => ?_) (by have := ok.l3; omega) (fun _ _ => rfl)]
    · simp [Net.ends]
    · simp [stepL, wipeE, mVar, lkD, ixd1]
  simp [F_ends_in, bodyF_eq, m_ends_in, startE, e]
theorem big_m (ok : N.Ok) : big62 (N.m : Int) = true := small_big (by omega) (by have := ok.m6; omega)
theorem ours_in_eq (ok : N.Ok) : F_ours_in [N.d] st = .ok (.lst (N.ours.map .int)) st := by
  have e : mLC finF (mRng1 (m2 ixD (mVar 0) (mC (.int 0)))) (gNm 2) (asB (m2 notinD (mVar 2) (mVar 1))) (mVar 2) [2] [some N.d, some (.lst (N.ends.map .int)), none] st = .ok (.lst (N.ours.map .int)) st := by
    have hl : N.all.length ≤ 16000000 := by
      have q : N.all.length = N.m := by simp [Net.all]
      rw [q]; exact Nat.le_trans ok.m6 (by decide)
    have hi : mRng1 (m2 ixD (mVar 0) (mC (.int 0))) [some N.d, some (.lst (N.ends.map .int)), none] st = .ok (N.all.map .int) st := by
      simp only [ap_rng1, ap_m2, mVar, List.getElem?_cons_zero, Res.ok_bind, ap_c, N.ix0, big_m ok, if_true, Int.toNat_natCast]
      rw [rangeL_0]; rfl
    rw [lc_filtL (xs := N.all) (g0 := D.int) D.int (fun i => !decide (i ∈ N.ends)) hi (fun i hi st' => ?_) hl (fun _ _ => rfl)]
    · unfold Net.ours; rfl
    · by_cases h : i ∈ N.ends <;> simp [stepL, wipeE, mVar, notinD_lst, h]
  simp [F_ours_in, bodyF_eq, m_ours_in, startE, List.replicate, mVar, ends_in_eq ok, q_ours_in_2, e]
end
end G15
set_option maxHeartbeats 4000000
namespace G15
open PySem PySem.Spec PyProof.Rows L2 VI
theorem wh_stop {n : Nat} {t : MB} {b : MS} {ρ : VI.Env} {st st1 : Mem} (h : t ρ st = .ok false st1) : whL (n + 1) t b ρ st = .nx ρ st1 := by
  simp only [whL, h, Res.ok_toS]
  rfl
theorem wh_go {n : Nat} {t : MB} {b : MS} {ρ ρ' : VI.Env} {st st1 st2 : Mem} (h : t ρ st = .ok true st1) (hb : b ρ st1 = .nx ρ' st2) : whL (n + 1) t b ρ st = whL n t b ρ' st2 := by
  simp only [whL, h, Res.ok_toS, if_true, hb]
theorem wh_ret {n : Nat} {t : MB} {b : MS} {ρ : VI.Env} {st st1 st2 : Mem} {d : D} (h : t ρ st = .ok true st1) (hb : b ρ st1 = .rt d st2) : whL (n + 1) t b ρ st = .rt d st2 := by
  simp only [whL, h, Res.ok_toS, if_true, hb]
section
variable {st : Mem} {a : Nat}
theorem nm_app (ns : List Nm) (nm : Nm) : appendD (.loc st.length) [nmD nm] (st ++ [.lst (ns.map nmD)]) = if ns.length < LINE then .ok .non (st ++ [.lst ((ns ++ [nm]).map nmD)]) else .bad := by
  unfold appendD
  have e : (st ++ [Cell.lst (ns.map nmD)])[st.length]? = some (.lst (ns.map nmD)) := by simp
  simp only [e, List.length_map]
  split
  · simp
  · rfl
/-- a lap of ring_from -/
theorem ring_lap {A : Ah} (ha : st[a]? = some (.dK (encF ahD A))) {v x : Int} {nm : Nm} {w : Int} (hv : lk A v = some (nm, w)) (ns : List Nm) (hl : ns.length ≤ 1000) (y4 : Option D) :
    b_ring_from_2 [some (.loc a), some (.int x), some (.loc st.length), some (.int v), y4] (st ++ [.lst (ns.map nmD)]) =
      if w = x then .rt (.tup ((ns ++ [nm]).map nmD)) (st ++ [.lst ((ns ++ [nm]).map nmD)])
      else if A.length < ns.length + 1 then .rt .non (st ++ [.lst ((ns ++ [nm]).map nmD)])
      else .nx [some (.loc a), some (.int x), some (.loc st.length), some (.int w), some (nmD nm)] (st ++ [.lst ((ns ++ [nm]).map nmD)]) := by
  have hlt : a < st.length := (List.getElem?_eq_some_iff.mp ha).1
  have h1 : ∀ ns : List Nm, (st ++ [Cell.lst (ns.map nmD)])[a]? = some (.dK (encF ahD A)) := fun ns => by rw [List.getElem?_append_left hlt]; exact ha
  have e1 := ixD_enc (h1 ns) hv
  have tl : isT "list" (.loc st.length) (st ++ [.lst (ns.map nmD)]) = true := by simp [isT]
  have hz : ns.length < LINE := by show _ < 16777216; omega
  have ap := nm_app (st := st) ns nm
  rw [if_pos hz] at ap
  have tp : tupleD (.loc st.length) (st ++ [.lst ((ns ++ [nm]).map nmD)]) = .ok (.tup ((ns ++ [nm]).map nmD)) (st ++ [.lst ((ns ++ [nm]).map nmD)]) := by
    unfold tupleD
    have e : (st ++ [Cell.lst ((ns ++ [nm]).map nmD)])[st.length]? = some (.lst ((ns ++ [nm]).map nmD)) := by simp
    simp only [lstD, e]
  have lf : lenD (.loc st.length) (st ++ [.lst ((ns ++ [nm]).map nmD)]) = .ok (.int ((ns.length + 1 : Nat) : Int)) (st ++ [.lst ((ns ++ [nm]).map nmD)]) := by
    unfold lenD
    have e : (st ++ [Cell.lst ((ns ++ [nm]).map nmD)])[st.length]? = some (.lst ((ns ++ [nm]).map nmD)) := by simp
    simp only [e, List.length_map, List.length_append, List.length_singleton]
  have la := lenD_enc (h1 (ns ++ [nm]))
  simp only [b_ring_from_2, ap_seq, ap_asg, ap_m2, mVar, List.getElem?_cons_succ, List.getElem?_cons_zero, Res.ok_bind, e1, Res.ok_toS, ahD, gTp_tup, List.length_cons, List.length_nil, if_true, gsCons_c, gsNil_n, ap_gNm, List.set_cons_succ, List.set_cons_zero, RS.nx_seq, q_ring_from_4, ap_drop, ap_bm, tl, ap_args1, ap_args0, ap, q_ring_from_5, ap_if, ap_asB, eqD_int, ap_resB]
  by_cases hw : w = x
  · subst hw
    simp only [beq_self_eq_true, if_true, ap_ret, ap_mF, ap_args1, ap_args0, mVar, List.getElem?_cons_succ, List.getElem?_cons_zero, Res.ok_bind, ap_f1, tp, Res.ok_toS, RS.rt_seq]
  · have hb : (w == x) = false := by simpa using hw
    simp only [hb, Bool.false_eq_true, if_false, ap_nil, RS.nx_seq, hw, q_ring_from_7, ap_if, ap_asB, ap_m2, ap_mF, ap_args1, ap_args0, mVar, List.getElem?_cons_succ, List.getElem?_cons_zero, Res.ok_bind, ap_f1, lf, la, gtD_int, ap_resB, Res.ok_toS]
    by_cases hlen : A.length < ns.length + 1
    · have : ((A.length : Nat) : Int) < ((ns.length + 1 : Nat) : Int) := by omega
      simp only [this, decide_true, if_true, ap_ret, ap_c, Res.ok_toS, hlen]
    · have : ¬ ((A.length : Nat) : Int) < ((ns.length + 1 : Nat) : Int) := by omega
      simp only [this, decide_false, Bool.false_eq_true, if_false, ap_nil, hlen]
theorem ring_go {ms : List Int} {rs : List Rw} {T0 : Tmd} {A0 A : Ah} {x : Int} (L : Led ms rs T0 A0) (hA : ∀ z, z ≠ x → lk A z = lk A0 z) (hd : (A.map (·.1)).Nodup) (ha : st[a]? = some (.dK (encF ahD A))) :
    ∀ (k : Nat) (v : Int) (ns : List Nm) (Lp : List Int) (fuel : Nat) (y4 : Option D), Rk A0 k v → v ∈ ms → v ≠ x → k < fuel → Lp.length = ns.length → Lp.Nodup → (∀ u ∈ Lp, u ∈ A.map (·.1) ∧ (u = x ∨ ∃ j, k < j ∧ Rk A0 j u)) → ns.length + k ≤ 1000 →
      (Rk A k v ∧ ∃ (ρ' : List (Option D)) (ns' : List Nm), whL fuel (asB (m2 inD (mVar 3) (mVar 0))) b_ring_from_2 [some (.loc a), some (.int x), some (.loc st.length), some (.int v), y4] (st ++ [.lst (ns.map nmD)]) = .nx ρ' (st ++ [.lst (ns'.map nmD)])) ∨
      (∃ G : List Rw, (G ≠ [] ∧ G.length ≤ k) ∧ Chain rs G v x ∧ tv T0 v + dsum G ≤ tv T0 x ∧ whL fuel (asB (m2 inD (mVar 3) (mVar 0))) b_ring_from_2 [some (.loc a), some (.int x), some (.loc st.length), some (.int v), y4] (st ++ [.lst (ns.map nmD)]) =
        .rt (.tup ((ns ++ G.map (·.1)).map nmD)) (st ++ [.lst ((ns ++ G.map (·.1)).map nmD)])) := by
  have hlt : a < st.length := (List.getElem?_eq_some_iff.mp ha).1
  have h1 : ∀ ns : List Nm, (st ++ [Cell.lst (ns.map nmD)])[a]? = some (.dK (encF ahD A)) := fun ns => by rw [List.getElem?_append_left hlt]; exact ha
  intro k
  induction k with
  | zero =>
    intro v ns Lp fuel y4 hk hv hx hf _ _ _ _
    obtain ⟨f, rfl⟩ : ∃ f, fuel = f + 1 := ⟨fuel - 1, by omega⟩
    have e : lk A v = none := by rw [hA v hx]; exact hk.2
    refine .inl ⟨⟨hk.1, e⟩, _, ns, wh_stop ?_⟩
    simp only [ap_asB, ap_m2, mVar, List.getElem?_cons_succ, List.getElem?_cons_zero, Res.ok_bind, inD_enc (h1 ns), e, Option.isSome_none, ap_resB]
  | succ k ih =>
    intro v ns Lp fuel y4 hk hv hx hf hl hn hm hz
    obtain ⟨f, rfl⟩ : ∃ f, fuel = f + 1 := ⟨fuel - 1, by omega⟩
    obtain ⟨nm, w, e0, hw⟩ := hk
    have e : lk A v = some (nm, w) := by rw [hA v hx]; exact e0
    obtain ⟨_, hwm, d, hr, ht⟩ := L.ap v nm w e0
    have tt : (asB (m2 inD (mVar 3) (mVar 0))) [some (.loc a), some (.int x), some (.loc st.length), some (.int v), y4] (st ++ [.lst (ns.map nmD)]) = .ok true (st ++ [.lst (ns.map nmD)]) := by
      simp only [ap_asB, ap_m2, mVar, List.getElem?_cons_succ, List.getElem?_cons_zero, Res.ok_bind, inD_enc (h1 ns), e, Option.isSome_some, ap_resB]
    have lap := ring_lap (x := x) ha e ns (by omega) y4
    by_cases hwx : w = x
    · rw [if_pos hwx] at lap
      refine .inr ⟨[(nm, v, w, d)], ⟨by simp, by simp⟩, ⟨hr, rfl, hwx⟩, ?_, ?_⟩
      · simp only [dsum, List.map_cons, List.map_nil, List.sum_cons, List.sum_nil]
        rw [← hwx]; omega
      · rw [wh_ret tt lap]; rfl
    · rw [if_neg hwx] at lap
      have hvL : v ∉ Lp := fun h => by
        rcases (hm v h).2 with h2 | ⟨j, hj, hr2⟩
        · exact hx h2
        · have := rk_uniq hr2 (show Rk A0 (k + 1) v from ⟨nm, w, e0, hw⟩)
          omega
      have hkey : v ∈ A.map (·.1) := lk_some.mp (by rw [e]; rfl)
      have hn2 : (v :: Lp).Nodup := List.nodup_cons.mpr ⟨hvL, hn⟩
      have hle : (v :: Lp).length ≤ A.length := by
        rw [← List.length_map (f := (·.1)) (as := A)]
        exact nodup_le hn2 hd fun u hu => by
          rcases List.mem_cons.mp hu with rfl | hu
          · exact hkey
          · exact (hm u hu).1
      simp only [List.length_cons] at hle
      rw [if_neg (by omega)] at lap
      rcases ih w (ns ++ [nm]) (v :: Lp) f (some (nmD nm)) hw hwm hwx (by omega) (by simp [hl]) hn2 (fun u hu => by
        rcases List.mem_cons.mp hu with rfl | hu
        · exact ⟨hkey, .inr ⟨k + 1, by omega, nm, w, e0, hw⟩⟩
        · obtain ⟨p1, p2 | ⟨j, p2, p3⟩⟩ := hm u hu
          · exact ⟨p1, .inl p2⟩
          · exact ⟨p1, .inr ⟨j, by omega, p3⟩⟩) (by simp only [List.length_append, List.length_singleton]; omega) with ⟨q1, ρ', ns', q2⟩ | ⟨G, ⟨g1, gl⟩, g2, g3, g4⟩
      · exact .inl ⟨⟨nm, w, e, q1⟩, ρ', ns', by rw [wh_go tt lap]; exact q2⟩
      · refine .inr ⟨(nm, v, w, d) :: G, ⟨by simp, by simp only [List.length_cons]; omega⟩, ⟨hr, rfl, g2⟩, ?_, ?_⟩
        · simp only [dsum, List.map_cons, List.sum_cons] at g3 ⊢; omega
        · rw [wh_go tt lap, g4]; simp
/-- ring_from behind a change at x -/
theorem ring_from_eq {ms : List Int} {rs : List Rw} {T0 : Tmd} {A0 A : Ah} {x y : Int} {nm : Nm} (L : Led ms rs T0 A0) (hl : ms.length ≤ 15) (hm : ms.Nodup) (hx : x ∈ ms) (hy : y ∈ ms) (hxy : y ≠ x) (eA : A = putL A0 x (nm, y)) (ha : st[a]? = some (.dK (encF ahD A))) :
    (F_ring_from [.loc a, .int x] st = .ok .non st ∧ ∃ k, Rk A k y) ∨
    (∃ G : List Rw, (G ≠ [] ∧ G.length ≤ 15) ∧ Chain rs G y x ∧ tv T0 y + dsum G ≤ tv T0 x ∧ F_ring_from [.loc a, .int x] st = .ok (.tup ((nm :: G.map (·.1)).map nmD)) st) := by
  have hA : ∀ z, z ≠ x → lk A z = lk A0 z := fun z hz => by rw [eA, lk_put, if_neg (Ne.symm hz)]
  have hxx : lk A x = some (nm, y) := by rw [eA, lk_put, if_pos rfl]
  have hd : (A.map (·.1)).Nodup := by rw [eA]; exact put_keys L.ad
  obtain ⟨k, hk⟩ := L.rk y hy
  have hkl : k ≤ 15 := by
    have h1 := rk_le L.ad hk
    have h2 : A0.length ≤ ms.length := by
      rw [← List.length_map (f := (·.1)) (as := A0)]
      exact nodup_le L.ad hm L.am
    omega
  have hlt : a < st.length := (List.getElem?_eq_some_iff.mp ha).1
  have h1 : ∀ ns : List Nm, (st ++ [Cell.lst (ns.map nmD)])[a]? = some (.dK (encF ahD A)) := fun ns => by rw [List.getElem?_append_left hlt]; exact ha
  have tt : (asB (m2 inD (mVar 3) (mVar 0))) [some (.loc a), some (.int x), some (.loc st.length), some (.int x), none] (st ++ [.lst (([] : List Nm).map nmD)]) = .ok true (st ++ [.lst (([] : List Nm).map nmD)]) := by
    simp only [ap_asB, ap_m2, mVar, List.getElem?_cons_succ, List.getElem?_cons_zero, Res.ok_bind, inD_enc (h1 []), hxx, Option.isSome_some, ap_resB]
  have lap := ring_lap (x := x) ha hxx [] (by simp) none
  have hkey : x ∈ A.map (·.1) := lk_some.mp (by rw [hxx]; rfl)
  have hpos : 0 < A.length := by rw [← List.length_map (f := (·.1)) (as := A)]; exact List.length_pos_of_mem hkey
  rw [if_neg hxy, if_neg (show ¬ A.length < ([] : List Nm).length + 1 by rw [List.length_nil]; omega)] at lap
  have nilE : st ++ [Cell.lst []] = st ++ [.lst (([] : List Nm).map nmD)] := rfl
  have start : F_ring_from [.loc a, .int x] st = dropR st (endS ((whL 20 (asB (m2 inD (mVar 3) (mVar 0))) b_ring_from_2 [some (.loc a), some (.int x), some (.loc st.length), some (.int x), none] (st ++ [.lst []])).seq q_ring_from_9)) := by
    show dropR st (endS (m_ring_from [some (.loc a), some (.int x), none, none, none] st)) = _
    simp only [m_ring_from, ap_seq, ap_par, ap_lst, ap_args0, Res.ok_bind, ap_mkN, Res.ok_toS, mVar, List.getElem?_cons_succ, List.getElem?_cons_zero, List.set_cons_succ, List.set_cons_zero, RS.nx_seq, q_ring_from_2]
    rfl
  have bn : ∀ ns : List Nm, belowD st.length (.tup (ns.map nmD)) = true := fun ns => belowL_mem fun d hd => by
    obtain ⟨z, _, rfl⟩ := List.mem_map.mp hd
    rfl
  rcases ring_go (a := a) L hA hd ha k y [nm] [x] 19 (some (nmD nm)) hk hy hxy (by omega) rfl (by simp) (fun u hu => by
    rw [List.mem_singleton] at hu; subst hu
    exact ⟨hkey, .inl rfl⟩) (by simp only [List.length_singleton]; omega) with ⟨q1, ρ', ns', q2⟩ | ⟨G, ⟨g1, gl⟩, g2, g3, g4⟩
  · refine .inl ⟨?_, k, q1⟩
    rw [start, nilE, show (20 : Nat) = 19 + 1 from rfl, wh_go tt lap]
    simp only [List.nil_append]
    rw [q2]
    simp [q_ring_from_9, dropR, belowD]
  · refine .inr ⟨G, ⟨g1, by omega⟩, g2, g3, ?_⟩
    rw [start, nilE, show (20 : Nat) = 19 + 1 from rfl, wh_go tt lap]
    simp only [List.nil_append]
    rw [g4]
    have := bn (nm :: G.map (·.1))
    simp only [List.singleton_append, RS.rt_seq, endS_rt, dropR, this, clean_app, Bool.and_self, if_true, List.take_left]
end
end G15
set_option maxHeartbeats 4000000
namespace G15
open PySem PySem.Spec PyProof.Rows L2 VI
abbrev TA (st : Mem) (T : Tmd) (A : Ah) : Mem := st ++ [.dK (encF D.int T), .dK (encF ahD A)]
section
variable {st : Mem} {T : Tmd} {A : Ah} {ms : List Int} {rs : List Rw}
theorem ta_t : (TA st T A)[st.length]? = some (.dK (encF D.int T)) := by simp
theorem ta_a : (TA st T A)[st.length + 1]? = some (.dK (encF ahD A)) := by simp
theorem ta_st (T' : Tmd) : (TA st T A).set st.length (.dK (encF D.int T')) = TA st T' A := by simp
theorem ta_sa (A' : Ah) : (TA st T A).set (st.length + 1) (.dK (encF ahD A')) = TA st T A' := by simp
theorem tv_of {x : Int} (h : (lk T x).isSome = true) : lk T x = some (tv T x) := by
  obtain ⟨v, hv⟩ := Option.isSome_iff_exists.mp h
  simp [tv, hv]
theorem tv_put (x v z : Int) : tv (putL T x v) z = if x = z then v else tv T z := by
  unfold tv
  rw [lk_put]
  split <;> rfl
theorem put_le {β : Type} {f : List (Int × β)} {x : Int} {v : β} {ms : List Int} (hd : (f.map (·.1)).Nodup) (hm : ∀ z ∈ f.map (·.1), z ∈ ms) (hn : ms.Nodup) : f.length ≤ ms.length := by
  rw [← List.length_map (f := (·.1)) (as := f)]
  exact nodup_le hd hn hm
abbrev ENV (m0 m1 : Option D) (n : Nat) (o : Bool) (x5 x6 x7 x8 x9 x10 : Option D) : List (Option D) := [m0, m1, some (.loc n), some (.loc (n + 1)), some (.bl o), x5, x6, x7, x8, x9, x10]
abbrev tgS : MG := gTp 2 (gsCons (gNm 5) (gsCons (gTp 3 (gsCons (gNm 6) (gsCons (gNm 7) (gsCons (gNm 8) (gsNil))))) (gsNil)))
/-- times led along by a row: all that is kept -/
theorem led_put {x y d : Int} {nm : Nm} (L : Led ms rs T A) (hx : x ∈ ms) (hy : y ∈ ms) (hr : (nm, x, y, d) ∈ rs) (hlt : tv T x < tv T y - d) (hxy : y ≠ x) (hk : ∃ k, Rk (putL A x (nm, y)) k y) :
    Led ms rs (putL T x (tv T y - d)) (putL A x (nm, y)) ∧ (∀ z ∈ ms, tv T z ≤ tv (putL T x (tv T y - d)) z) := by
  have hx0 : x ≠ 0 := fun h => by
    subst h
    obtain ⟨k, hk⟩ := hk
    have : ∀ (k : Nat) (z : Int), Rk (putL A 0 (nm, y)) k z → False := by
      intro k
      induction k with
      | zero => intro z h; have := h.2; rw [h.1, lk_put, if_pos rfl] at this; cases this
      | succ k ih => intro z ⟨_, w, _, h⟩; exact ih w h
    exact this k y hk
  have up : ∀ z, tv T z ≤ tv (putL T x (tv T y - d)) z := fun z => by
    rw [tv_put]
    split
    · rename_i h; rw [← h]; omega
    · exact Int.le_refl _
  refine ⟨⟨fun z hz => ?_, ?_, fun z hz => ?_, put_keys L.ad, fun z hz => ?_, fun z nm' w e => ?_, fun z hz => ?_⟩, fun z _ => up z⟩
  · rw [lk_put]; split
    · rfl
    · exact L.tk z hz
  · rw [tv_put, if_neg hx0]; exact L.t0
  · exact Int.le_trans (L.tn z hz) (up z)
  · have := lk_some.mpr hz
    rw [lk_put] at this
    by_cases h : x = z
    · rw [← h]; exact hx
    · rw [if_neg h] at this
      exact L.am z (lk_some.mp this)
  · rw [lk_put] at e
    by_cases h : x = z
    · subst h
      rw [if_pos rfl] at e
      cases e
      refine ⟨hx, hy, d, hr, ?_⟩
      rw [tv_put, if_pos rfl, tv_put, if_neg (Ne.symm hxy)]
      exact Int.le_refl _
    · rw [if_neg h] at e
      obtain ⟨a, b, d', hr', ht'⟩ := L.ap z nm' w e
      refine ⟨a, b, d', hr', ?_⟩
      rw [tv_put, if_neg h]
      have := up w
      omega
  · obtain ⟨k0, hk0⟩ := L.rk z hz
    have key : ∀ (k : Nat) (z : Int), z ∈ ms → Rk A k z → ∃ k', Rk (putL A x (nm, y)) k' z := by
      intro k
      induction k with
      | zero =>
        intro z hz h
        exact ⟨0, h.1, by rw [lk_put, if_neg (fun e => hx0 (e.trans h.1))]; exact h.2⟩
      | succ k ih =>
        intro z hz ⟨nm', w, e, h⟩
        by_cases hxz : x = z
        · subst hxz
          obtain ⟨k', hk'⟩ := hk
          exact ⟨k' + 1, nm, y, by rw [lk_put, if_pos rfl], hk'⟩
        · obtain ⟨_, hw, _⟩ := L.ap z nm' w e
          obtain ⟨k', hk'⟩ := ih w hw h
          exact ⟨k' + 1, nm', w, by rw [lk_put, if_neg hxz]; exact e, hk'⟩
    exact key k0 z hz hk0
theorem row_step {m0 m1 : Option D} (L : Led ms rs T A) (hl : ms.length ≤ 15) (hm : ms.Nodup) (hT : T.length ≤ 1000) {r : Rw} (hr : r ∈ rs) (hx : r.2.1 ∈ ms) (hy : r.2.2.1 ∈ ms) (o : Bool) (x5 x6 x7 x8 x9 x10 : Option D) :
    (∃ ns st', RingOk rs ns ∧ stepF tgS b_soonest_in_5 (rwD r) (ENV m0 m1 st.length o x5 x6 x7 x8 x9 x10) (TA st T A) = .rt (.tup [.str "ring", .tup (ns.map nmD)]) (st ++ st')) ∨
    (tv T r.2.2.1 - r.2.2.2 ≤ tv T r.2.1 ∧ ∃ y5 y6 y7 y8, stepF tgS b_soonest_in_5 (rwD r) (ENV m0 m1 st.length o x5 x6 x7 x8 x9 x10) (TA st T A) = .nx (ENV m0 m1 st.length o y5 y6 y7 y8 x9 x10) (TA st T A)) ∨
    (∃ T' A' y5 y6 y7 y8 y9, Led ms rs T' A' ∧ T'.length ≤ T.length + 1 ∧ (∀ z ∈ ms, tv T z ≤ tv T' z) ∧ tv T r.2.1 < tv T' r.2.1 ∧ (T'.map (·.1)) = T.map (·.1) ∧
      stepF tgS b_soonest_in_5 (rwD r) (ENV m0 m1 st.length o x5 x6 x7 x8 x9 x10) (TA st T A) = .nx (ENV m0 m1 st.length true y5 y6 y7 y8 y9 x10) (TA st T' A')) := by
  obtain ⟨nm, x, y, d⟩ := r
  simp only at hx hy
  have tx := tv_of (L.tk x hx)
  have ty := tv_of (L.tk y hy)
  have ix : ∀ (A : Ah), ixD (.loc st.length) (.int x) (TA st T A) = .ok (.int (tv T x)) (TA st T A) := fun A => ixD_enc ta_t tx
  have iy : ∀ (A : Ah), ixD (.loc st.length) (.int y) (TA st T A) = .ok (.int (tv T y)) (TA st T A) := fun A => ixD_enc ta_t ty
  have go1 : stepF tgS b_soonest_in_5 (rwD (nm, x, y, d)) (ENV m0 m1 st.length o x5 x6 x7 x8 x9 x10) (TA st T A) = b_soonest_in_5 (ENV m0 m1 st.length o (some (nmD nm)) (some (.int x)) (some (.int y)) (some (.int d)) x9 x10) (TA st T A) := by
    simp only [stepF, rwD, gp3, gTp_tup, List.length_cons, List.length_nil, if_true, gsCons_c, gsNil_n, ap_gNm, List.set_cons_succ, List.set_cons_zero]
  rw [go1]
  by_cases hs : x = y ∧ d < 0
  · refine .inl ⟨[nm], [.dK (encF D.int T), .dK (encF ahD A)], ⟨[(nm, x, y, d)], x, by simp, ⟨hr, rfl, hs.1.symm⟩, by simp [dsum, hs.2], rfl, by simp⟩, ?_⟩
    have hb : (x == y) = true := by simpa using hs.1
    simp only [b_soonest_in_5, ap_seq, ap_if, ap_and, ap_asB, ap_m2, ap_c, mVar, List.getElem?_cons_succ, List.getElem?_cons_zero, Res.ok_bind, eqD_int, hb, ap_resB, if_true, ltD_int, hs.2, decide_true, Res.ok_toS, ap_ret, ap_tup, ap_args1, ap_args0, RS.rt_seq]
    rfl
  · have c1 : (mAnd (asB (m2 eqD (mVar 6) (mVar 7))) (asB (m2 ltD (mVar 8) (mC (.int 0))))) (ENV m0 m1 st.length o (some (nmD nm)) (some (.int x)) (some (.int y)) (some (.int d)) x9 x10) (TA st T A) = .ok false (TA st T A) := by
      by_cases h : x = y
      · have hd : ¬ d < 0 := fun z => hs ⟨h, z⟩
        have hb : (x == y) = true := by simpa using h
        simp only [ap_and, ap_asB, ap_m2, ap_c, mVar, List.getElem?_cons_succ, List.getElem?_cons_zero, Res.ok_bind, eqD_int, hb, ap_resB, if_true, ltD_int, hd, decide_false]
      · have hb : (x == y) = false := by simpa using h
        simp only [ap_and, ap_asB, ap_m2, ap_c, mVar, List.getElem?_cons_succ, List.getElem?_cons_zero, Res.ok_bind, eqD_int, hb, ap_resB, Bool.false_eq_true, if_false]
    have go2 : b_soonest_in_5 (ENV m0 m1 st.length o (some (nmD nm)) (some (.int x)) (some (.int y)) (some (.int d)) x9 x10) (TA st T A) = q_soonest_in_8 (ENV m0 m1 st.length o (some (nmD nm)) (some (.int x)) (some (.int y)) (some (.int d)) x9 x10) (TA st T A) := by
      simp only [b_soonest_in_5, ap_seq, ap_if, c1, Res.ok_toS, Bool.false_eq_true, if_false, ap_nil, RS.nx_seq]
    rw [go2]
    by_cases hlt : tv T x < tv T y - d
    · have hxy : y ≠ x := fun h => by
        subst h
        exact hs ⟨rfl, by omega⟩
      have s1 := setD_enc (e := D.int) (n := st.length) (st := TA st T A) ta_t x (tv T y - d) (by omega)
      rw [ta_st] at s1
      have hAl : A.length ≤ 100000 := by
        have := put_le (x := x) (v := (nm, y)) L.ad L.am hm
        omega
      have s2 := setD_enc (e := ahD) (n := st.length + 1) (st := TA st (putL T x (tv T y - d)) A) ta_a x (nm, y) hAl
      rw [ta_sa] at s2
      have hah : ahD (nm, y) = .tup [nmD nm, .int y] := rfl
      rw [hah] at s2
      have keyT : (putL T x (tv T y - d)).map (·.1) = T.map (·.1) := by
        unfold putL
        rw [any_lk, if_pos (L.tk x hx), List.map_map]
        refine List.map_congr_left fun z _ => ?_
        simp only [Function.comp_apply]
        split <;> rfl
      have go3 : q_soonest_in_8 (ENV m0 m1 st.length o (some (nmD nm)) (some (.int x)) (some (.int y)) (some (.int d)) x9 x10) (TA st T A) = q_soonest_in_10 (ENV m0 m1 st.length true (some (nmD nm)) (some (.int x)) (some (.int y)) (some (.int d)) x9 x10) (TA st (putL T x (tv T y - d)) (putL A x (nm, y))) := by
        simp only [q_soonest_in_8, ap_if, ap_asB, ap_m2, mVar, List.getElem?_cons_succ, List.getElem?_cons_zero, Res.ok_bind, ix, iy, subD_int, ltD_int, hlt, decide_true, ap_resB, Res.ok_toS, if_true, ap_seq, ap_asg, ap_tup, ap_args1, ap_args0, ap_c, gTp_tup, List.length_cons, List.length_nil, gsCons_c, gsNil_n, ap_gSub, s1, s2, ap_gNm, List.set_cons_succ, List.set_cons_zero, RS.nx_seq]
      rw [go3]
      rcases ring_from_eq (st := TA st (putL T x (tv T y - d)) (putL A x (nm, y))) (a := st.length + 1) L hl hm hx hy hxy rfl ta_a with ⟨e, hk⟩ | ⟨G, ⟨g1, gl⟩, g2, g3, e⟩
      · obtain ⟨L', up⟩ := led_put L hx hy hr hlt hxy hk
        refine .inr (.inr ⟨_, _, some (nmD nm), some (.int x), some (.int y), some (.int d), some .non, L', (put_len _ _ _).2, up, ?_, keyT, ?_⟩)
        · simp only [tv_put, if_pos]; exact hlt
        · simp only [q_soonest_in_10, ap_seq, ap_set, ap_mF, ap_args1, ap_args0, mVar, List.getElem?_cons_succ, List.getElem?_cons_zero, Res.ok_bind, e, Res.ok_toS, List.set_cons_succ, List.set_cons_zero, RS.nx_seq, q_soonest_in_11, ap_if, ap_asB, ap_m2, ap_c, isnotD, isNonD, Bool.not_true, ap_resB, Bool.false_eq_true, if_false, ap_nil]
      · refine .inl ⟨nm :: G.map (·.1), [.dK (encF D.int (putL T x (tv T y - d))), .dK (encF ahD (putL A x (nm, y)))], ⟨(nm, x, y, d) :: G, x, by simp, ⟨hr, rfl, g2⟩, ?_, rfl, by simp only [List.length_cons, List.length_map]; omega⟩, ?_⟩
        · simp only [dsum, List.map_cons, List.sum_cons] at g3 ⊢; omega
        · simp only [q_soonest_in_10, ap_seq, ap_set, ap_mF, ap_args1, ap_args0, mVar, List.getElem?_cons_succ, List.getElem?_cons_zero, Res.ok_bind, e, Res.ok_toS, List.set_cons_succ, List.set_cons_zero, RS.nx_seq, q_soonest_in_11, ap_if, ap_asB, ap_m2, ap_c, isnotD, isNonD, Bool.not_false, ap_resB, if_true, ap_ret, ap_tup]
    · refine .inr (.inl ⟨by simp only; omega, some (nmD nm), some (.int x), some (.int y), some (.int d), ?_⟩)
      simp only [q_soonest_in_8, ap_if, ap_asB, ap_m2, mVar, List.getElem?_cons_succ, List.getElem?_cons_zero, Res.ok_bind, ix, iy, subD_int, ltD_int, hlt, decide_false, ap_resB, Res.ok_toS, Bool.false_eq_true, if_false, ap_nil]
/-- all rows once -/
theorem pass {m0 m1 : Option D} (hl : ms.length ≤ 15) (hm : ms.Nodup) (hrs : ∀ r ∈ rs, r.2.1 ∈ ms ∧ r.2.2.1 ∈ ms) : ∀ (ss : List Rw) (T : Tmd) (A : Ah), (∀ r ∈ ss, r ∈ rs) → Led ms rs T A → T.length ≤ 900 → ∀ (o : Bool) (x5 x6 x7 x8 x9 x10 : Option D),
    (∃ ns st', RingOk rs ns ∧ forL (ss.map rwD) (stepF tgS b_soonest_in_5) (ENV m0 m1 st.length o x5 x6 x7 x8 x9 x10) (TA st T A) = .rt (.tup [.str "ring", .tup (ns.map nmD)]) (st ++ st')) ∨
    (∃ T' A' o' y5 y6 y7 y8 y9, Led ms rs T' A' ∧ T'.map (·.1) = T.map (·.1) ∧ (∀ z ∈ ms, tv T z ≤ tv T' z) ∧ ((o' = o ∧ T' = T ∧ ∀ r ∈ ss, tv T r.2.2.1 - r.2.2.2 ≤ tv T r.2.1) ∨ (o' = true ∧ ∃ x ∈ ms, tv T x < tv T' x)) ∧
      forL (ss.map rwD) (stepF tgS b_soonest_in_5) (ENV m0 m1 st.length o x5 x6 x7 x8 x9 x10) (TA st T A) = .nx (ENV m0 m1 st.length o' y5 y6 y7 y8 y9 x10) (TA st T' A')) := by
  intro ss
  induction ss with
  | nil => intro T A _ L _ o x5 x6 x7 x8 x9 x10; exact .inr ⟨T, A, o, x5, x6, x7, x8, x9, L, rfl, fun _ _ => Int.le_refl _, .inl ⟨rfl, rfl, by simp⟩, rfl⟩
  | cons r ss ih =>
    intro T A hss L hT o x5 x6 x7 x8 x9 x10
    have hr := hss r List.mem_cons_self
    have hrr := hrs r hr
    rcases row_step (st := st) (m0 := m0) (m1 := m1) L hl hm (by omega) hr hrr.1 hrr.2 o x5 x6 x7 x8 x9 x10 with ⟨ns, st', h1, h2⟩ | ⟨h1, y5, y6, y7, y8, h2⟩ | ⟨T1, A1, y5, y6, y7, y8, y9, L1, _, up, hlt, hk, h2⟩
    · exact .inl ⟨ns, st', h1, by simp only [List.map_cons, forL, h2]⟩
    · rcases ih T A (fun q hq => hss q (List.mem_cons_of_mem _ hq)) L hT o y5 y6 y7 y8 x9 x10 with ⟨ns, st', g1, g2⟩ | ⟨T', A', o', z5, z6, z7, z8, z9, g1, g2, g3, g4, g5⟩
      · exact .inl ⟨ns, st', g1, by simp only [List.map_cons, forL, h2, g2]⟩
      · refine .inr ⟨T', A', o', z5, z6, z7, z8, z9, g1, g2, g3, ?_, by simp only [List.map_cons, forL, h2, g5]⟩
        rcases g4 with ⟨a, b, c⟩ | c
        · refine .inl ⟨a, b, fun q hq => ?_⟩
          rcases List.mem_cons.mp hq with rfl | hq
          · exact h1
          · exact c q hq
        · exact .inr c
    · have hT1 : T1.length ≤ 900 := by
        have := congrArg List.length hk
        simp only [List.length_map] at this
        omega
      rcases ih T1 A1 (fun q hq => hss q (List.mem_cons_of_mem _ hq)) L1 hT1 true y5 y6 y7 y8 y9 x10 with ⟨ns, st', g1, g2⟩ | ⟨T', A', o', z5, z6, z7, z8, z9, g1, g2, g3, g4, g5⟩
      · exact .inl ⟨ns, st', g1, by simp only [List.map_cons, forL, h2, g2]⟩
      · refine .inr ⟨T', A', o', z5, z6, z7, z8, z9, g1, g2.trans hk, fun z hz => Int.le_trans (up z hz) (g3 z hz), .inr ⟨?_, r.2.1, hrr.1, Int.lt_of_lt_of_le hlt (g3 _ hrr.1)⟩, by simp only [List.map_cons, forL, h2, g5]⟩
        rcases g4 with ⟨a, _⟩ | ⟨a, _⟩ <;> exact a
end
end G15
set_option maxHeartbeats 4000000
namespace G15
open PySem PySem.Spec PyProof.Rows L2 VI
section
variable {st : Mem} {ms : List Int} {rs : List Rw}
def pot (ms : List Int) (B : Nat) (T : Tmd) : Nat := (ms.map fun z => ((B : Int) - tv T z).toNat).sum
theorem pot_lt {B : Nat} {T T' : Tmd} (h : ∀ z ∈ ms, tv T z ≤ tv T' z) (hb : ∀ z ∈ ms, tv T' z ≤ B) {x : Int} (hx : x ∈ ms) (hlt : tv T x < tv T' x) : pot ms B T' < pot ms B T := by
  refine sum_lt hx (fun y hy => ?_) ?_
  · have := h y hy
    show ((B : Int) - tv T' y).toNat ≤ ((B : Int) - tv T y).toNat
    omega
  · have := hb x hx
    show ((B : Int) - tv T' x).toNat < ((B : Int) - tv T x).toNat
    omega
theorem loopS {m0 : Option D} {Dm : Nat} (hl : ms.length ≤ 15) (hm : ms.Nodup) (hrs : ∀ r ∈ rs, r.2.1 ∈ ms ∧ r.2.2.1 ∈ ms) (hD : ∀ r ∈ rs, -(Dm : Int) ≤ r.2.2.2) : ∀ (k : Nat) (T : Tmd) (A : Ah), Led ms rs T A → T.length ≤ 900 → pot ms (ms.length * Dm) T ≤ k → ∀ (fuel : Nat), k + 1 < fuel → ∀ (x5 x6 x7 x8 x9 x10 : Option D),
    (∃ ns st', RingOk rs ns ∧ whL fuel (asT (mVar 4)) b_soonest_in_3 (ENV m0 (some (.lst (rs.map rwD))) st.length true x5 x6 x7 x8 x9 x10) (TA st T A) = .rt (.tup [.str "ring", .tup (ns.map nmD)]) (st ++ st')) ∨
    (∃ T' A' y5 y6 y7 y8 y9, Led ms rs T' A' ∧ (∀ r ∈ rs, tv T' r.2.2.1 - r.2.2.2 ≤ tv T' r.2.1) ∧ whL fuel (asT (mVar 4)) b_soonest_in_3 (ENV m0 (some (.lst (rs.map rwD))) st.length true x5 x6 x7 x8 x9 x10) (TA st T A) = .nx (ENV m0 (some (.lst (rs.map rwD))) st.length false y5 y6 y7 y8 y9 x10) (TA st T' A')) := by
  intro k
  induction k with
  | zero =>
    intro T A L hT hp fuel hf x5 x6 x7 x8 x9 x10
    obtain ⟨f, rfl⟩ : ∃ f, fuel = f + 1 + 1 := ⟨fuel - 2, by omega⟩
    have tt : ∀ (b : Bool) (y5 y6 y7 y8 y9 : Option D) (s : Mem), (asT (mVar 4)) (ENV m0 (some (.lst (rs.map rwD))) st.length b y5 y6 y7 y8 y9 x10) s = .ok b s := fun b y5 y6 y7 y8 y9 s => by simp [mVar]
    have bd : b_soonest_in_3 (ENV m0 (some (.lst (rs.map rwD))) st.length true x5 x6 x7 x8 x9 x10) (TA st T A) = forL (rs.map rwD) (stepF tgS b_soonest_in_5) (ENV m0 (some (.lst (rs.map rwD))) st.length false x5 x6 x7 x8 x9 x10) (TA st T A) := by
      simp only [b_soonest_in_3, ap_seq, ap_set, ap_c, Res.ok_toS, List.set_cons_succ, List.set_cons_zero, RS.nx_seq, q_soonest_in_5, sFor, ap_it, mVar, List.getElem?_cons_succ, List.getElem?_cons_zero, Res.ok_bind, frz_lst]
    rcases pass (st := st) (m0 := m0) (m1 := some (.lst (rs.map rwD))) hl hm hrs rs T A (fun _ h => h) L hT false x5 x6 x7 x8 x9 x10 with ⟨ns, st', h1, h2⟩ | ⟨T', A', o', y5, y6, y7, y8, y9, h1, h2, h3, h4, h5⟩
    · exact .inl ⟨ns, st', h1, wh_ret (tt true _ _ _ _ _ _) (bd.trans h2)⟩
    · rcases h4 with ⟨rfl, rfl, h6⟩ | ⟨rfl, x, hx, hlt⟩
      · exact .inr ⟨T', A', y5, y6, y7, y8, y9, h1, h6, by rw [wh_go (tt true _ _ _ _ _ _) (bd.trans h5), wh_stop (tt false _ _ _ _ _ _)]⟩
      · have := pot_lt h3 (led_bound h1 hD hm) hx hlt
        omega
  | succ k ih =>
    intro T A L hT hp fuel hf x5 x6 x7 x8 x9 x10
    obtain ⟨f, rfl⟩ : ∃ f, fuel = f + 1 + 1 := ⟨fuel - 2, by omega⟩
    have tt : ∀ (b : Bool) (y5 y6 y7 y8 y9 : Option D) (s : Mem), (asT (mVar 4)) (ENV m0 (some (.lst (rs.map rwD))) st.length b y5 y6 y7 y8 y9 x10) s = .ok b s := fun b y5 y6 y7 y8 y9 s => by simp [mVar]
    have bd : b_soonest_in_3 (ENV m0 (some (.lst (rs.map rwD))) st.length true x5 x6 x7 x8 x9 x10) (TA st T A) = forL (rs.map rwD) (stepF tgS b_soonest_in_5) (ENV m0 (some (.lst (rs.map rwD))) st.length false x5 x6 x7 x8 x9 x10) (TA st T A) := by
      simp only [b_soonest_in_3, ap_seq, ap_set, ap_c, Res.ok_toS, List.set_cons_succ, List.set_cons_zero, RS.nx_seq, q_soonest_in_5, sFor, ap_it, mVar, List.getElem?_cons_succ, List.getElem?_cons_zero, Res.ok_bind, frz_lst]
    rcases pass (st := st) (m0 := m0) (m1 := some (.lst (rs.map rwD))) hl hm hrs rs T A (fun _ h => h) L hT false x5 x6 x7 x8 x9 x10 with ⟨ns, st', h1, h2⟩ | ⟨T', A', o', y5, y6, y7, y8, y9, h1, h2, h3, h4, h5⟩
    · exact .inl ⟨ns, st', h1, wh_ret (tt true _ _ _ _ _ _) (bd.trans h2)⟩
    · rcases h4 with ⟨rfl, rfl, h6⟩ | ⟨rfl, x, hx, hlt⟩
      · exact .inr ⟨T', A', y5, y6, y7, y8, y9, h1, h6, by rw [wh_go (tt true _ _ _ _ _ _) (bd.trans h5), wh_stop (tt false _ _ _ _ _ _)]⟩
      · have hp2 := pot_lt h3 (led_bound h1 hD hm) hx hlt
        have hT2 : T'.length ≤ 900 := by
          have := congrArg List.length h2
          simp only [List.length_map] at this
          omega
        rcases ih T' A' h1 hT2 (by omega) (f + 1) (by omega) y5 y6 y7 y8 y9 x10 with ⟨ns, st', g1, g2⟩ | ⟨T2, A2, z5, z6, z7, z8, z9, g1, g2, g3⟩
        · exact .inl ⟨ns, st', g1, by rw [wh_go (tt true _ _ _ _ _ _) (bd.trans h5)]; exact g2⟩
        · exact .inr ⟨T2, A2, z5, z6, z7, z8, z9, g1, g2, by rw [wh_go (tt true _ _ _ _ _ _) (bd.trans h5)]; exact g3⟩
/-! the begin -/
def putAll0 {β : Type} (v : Int → β) (ys : List Int) (h : List (Int × β)) : List (Int × β) := ys.foldl (fun f y => putL f y (v y)) h
theorem lk_putAll0 {β : Type} {v : Int → β} : ∀ (ys : List Int) (h : List (Int × β)) (x : Int), lk (putAll0 v ys h) x = if x ∈ ys then some (v x) else lk h x
  | [], h, x => by simp [putAll0]
  | y :: ys, h, x => by
    show lk (putAll0 v ys (putL h y (v y))) x = _
    rw [lk_putAll0 ys, lk_put]
    by_cases h1 : x ∈ ys
    · simp [h1]
    · by_cases h2 : y = x
      · subst h2; simp [h1]
      · have : ¬ x = y := fun e => h2 e.symm
        simp [h1, h2, this]
theorem putAll0_len {β : Type} {v : Int → β} : ∀ (ys : List Int) (h : List (Int × β)), (putAll0 v ys h).length ≤ h.length + ys.length
  | [], h => by simp [putAll0]
  | y :: ys, h => by
    show (putAll0 v ys (putL h y (v y))).length ≤ _
    have h1 := putAll0_len (v := v) ys (putL h y (v y))
    have h2 := (put_len h y (v y)).2
    simp only [List.length_cons]; omega
theorem dcI {ρ : VI.Env} {i : Nat} (hi : i < ρ.length) : ∀ (ys : List Int) (h : Tmd), h.length + ys.length ≤ 1000 →
    dcL st.length (ys.map .int) (VI.stepK (gNm i) mYes (mVar i) (mC (.int 0)) [i] ρ) (st ++ [.dK (encF D.int h)]) = .ok () (st ++ [.dK (encF D.int (putAll0 (fun _ => (0 : Int)) ys h))])
  | [], h, _ => rfl
  | y :: ys, h, hl => by
    simp only [List.length_cons] at hl
    have g1 : ((wipeE ρ [i]).set i (some (D.int y)))[i]? = some (some (.int y)) := by simp [wipeE, hi]
    have e1 : ∀ st' : Mem, VI.stepK (gNm i) mYes (mVar i) (mC (.int 0)) [i] ρ (.int y) st' = .ok (some (.int y, .int 0)) st' := fun st' => by
      simp only [VI.stepK, ap_gNm, ap_yes, Res.noX_ok, Res.ok_bind, if_true, ap_var _ _ _ _ g1, ap_c]
    have e2 : pushK st.length (some (.int y, .int 0)) (st ++ [.dK (encF D.int h)]) = .ok () (st ++ [.dK (encF D.int (putL h y 0))]) := by
      have at1 : (st ++ [Cell.dK (encF D.int h)])[st.length]? = some (.dK (encF D.int h)) := by simp
      have hz : (encF D.int h).length < LINE := by
        have : (encF D.int h).length = h.length := by simp [encF]
        show _ < 16777216
        omega
      simp only [pushK, at1, keyD, hz, if_true, putD_enc]
      simp
    simp only [List.map_cons, dcL, e1, Res.ok_bind, e2]
    have hz2 := (put_len h y 0).2
    rw [dcI hi ys (putL h y 0) (by omega)]
    rfl
def bgn (r : Rw) : Bool := (r.1.1 == ("begin" : Str)) && (!(r.2.1 == 0) && (r.2.2.2 == 0))
def bgnAll (ss : List Rw) (h : Ah) : Ah := ss.foldl (fun f r => if bgn r = true then putL f r.2.1 (r.1, 0) else f) h
theorem bgnAll_len : ∀ (ss : List Rw) (h : Ah), (bgnAll ss h).length ≤ h.length + ss.length
  | [], h => by simp [bgnAll]
  | r :: ss, h => by
    show (bgnAll ss (if bgn r = true then putL h r.2.1 (r.1, 0) else h)).length ≤ _
    have h2 := (put_len h r.2.1 (r.1, (0 : Int))).2
    simp only [List.length_cons]
    by_cases hb : bgn r = true
    · rw [if_pos hb]
      have := bgnAll_len ss (putL h r.2.1 (r.1, 0))
      omega
    · rw [if_neg hb]
      have := bgnAll_len ss h
      omega
theorem bgnAll_nd : ∀ (ss : List Rw) (h : Ah), (h.map (·.1)).Nodup → ((bgnAll ss h).map (·.1)).Nodup
  | [], h, hd => hd
  | r :: ss, h, hd => by
    show ((bgnAll ss (if bgn r = true then putL h r.2.1 (r.1, 0) else h)).map (·.1)).Nodup
    refine bgnAll_nd ss _ ?_
    split
    · exact put_keys hd
    · exact hd
theorem bgnAll_lk (P : Int → Nm × Int → Prop) : ∀ (ss : List Rw) (h : Ah), (∀ r ∈ ss, bgn r = true → P r.2.1 (r.1, 0)) → (∀ x v, lk h x = some v → P x v) → ∀ x v, lk (bgnAll ss h) x = some v → P x v
  | [], h, _, hp => hp
  | r :: ss, h, hs, hp => by
    show ∀ x v, lk (bgnAll ss (if bgn r = true then putL h r.2.1 (r.1, 0) else h)) x = some v → P x v
    refine bgnAll_lk P ss _ (fun q hq => hs q (List.mem_cons_of_mem _ hq)) fun x v e => ?_
    split at e
    · rename_i hb
      rw [lk_put] at e
      split at e
      · rename_i hx
        cases e
        rw [← hx]
        exact hs r List.mem_cons_self hb
      · exact hp x v e
    · exact hp x v e
theorem bgnAll_has : ∀ (ss : List Rw) (h : Ah) (x : Int), ((lk h x).isSome = true ∨ ∃ r ∈ ss, bgn r = true ∧ r.2.1 = x) → (lk (bgnAll ss h) x).isSome = true
  | [], h, x, hh => by
    rcases hh with hh | ⟨r, hr, _⟩
    · exact hh
    · cases hr
  | r :: ss, h, x, hh => by
    show (lk (bgnAll ss (if bgn r = true then putL h r.2.1 (r.1, 0) else h)) x).isSome = true
    refine bgnAll_has ss _ x ?_
    rcases hh with hh | ⟨q, hq, hb, hx⟩
    · left
      split
      · rw [lk_put]; split
        · rfl
        · exact hh
      · exact hh
    · rcases List.mem_cons.mp hq with rfl | hq
      · left
        rw [if_pos hb, lk_put, if_pos hx]; rfl
      · exact .inr ⟨q, hq, hb, hx⟩
abbrev tgB : MG := gTp 2 (gsCons (gNm 5) (gsCons (gNm 10) (gsNil)))
abbrev tB : MB := mAnd (asB (m2 eqD (m2 ixD (mVar 5) (mC (.int 0))) (mC (.str "begin")))) (mAnd (asB (m2 neD (m2 ixD (mVar 10) (mC (.int 0))) (mC (.int 0)))) (asB (m2 eqD (m2 ixD (mVar 10) (mC (.int 2))) (mC (.int 0)))))
theorem dcB {m0 m1 : Option D} {n : Nat} {o : Bool} {x5 x6 x7 x8 x9 x10 : Option D} : ∀ (ss : List Rw) (h : Ah), h.length + ss.length ≤ 1000 →
    dcL st.length (ss.map rwD) (VI.stepK tgB tB (m2 ixD (mVar 10) (mC (.int 0))) (mTup [mVar 5, mC (.int 0)]) [5, 10] (ENV m0 m1 n o x5 x6 x7 x8 x9 x10)) (st ++ [.dK (encF ahD h)]) = .ok () (st ++ [.dK (encF ahD (bgnAll ss h))])
  | [], h, _ => rfl
  | r :: ss, h, hl => by
    simp only [List.length_cons] at hl
    obtain ⟨⟨w, i⟩, x, y, d⟩ := r
    have e1 : ∀ st' : Mem, VI.stepK tgB tB (m2 ixD (mVar 10) (mC (.int 0))) (mTup [mVar 5, mC (.int 0)]) [5, 10] (ENV m0 m1 n o x5 x6 x7 x8 x9 x10) (rwD ((w, i), x, y, d)) st' = .ok (if bgn ((w, i), x, y, d) = true then some (.int x, ahD ((w, i), 0)) else none) st' := fun st' => by
      have eb : eqD (.str w) (.str "begin") st' = .ok (.bl (w == ("begin" : Str))) st' := rfl
      simp only [VI.stepK, wipeE, rwD, nmD, gp3, gTp_tup, List.length_cons, List.length_nil, if_true, gsCons_c, gsNil_n, ap_gNm, List.set_cons_succ, List.set_cons_zero, ap_and, ap_asB, ap_m2, ap_c, mVar, List.getElem?_cons_succ, List.getElem?_cons_zero, Res.ok_bind, ixd0, eb, ap_resB, bgn]
      by_cases hw : (w == ("begin" : Str)) = true
      · simp only [hw, if_true, neD_int, Res.ok_bind, ap_resB, Bool.true_and]
        by_cases hx : (x == 0) = true
        · simp [hx]
        · have hx' : (x == 0) = false := by simpa using hx
          simp only [hx', Bool.not_false, if_true, ixd2, Res.ok_bind, eqD_int, ap_resB, Bool.true_and]
          by_cases hd : (d == 0) = true
          · simp only [hd, if_true, Res.noX_ok, Res.ok_bind, ap_tup, ap_args1, ap_args0, mVar, List.getElem?_cons_succ, List.getElem?_cons_zero, ap_c]
            rfl
          · have hd' : (d == 0) = false := by simpa using hd
            simp [hd']
      · have hw' : (w == ("begin" : Str)) = false := by simpa using hw
        simp [hw']
    simp only [List.map_cons, dcL, e1, Res.ok_bind]
    show _ = Res.ok () (st ++ [.dK (encF ahD (bgnAll ss (if bgn ((w, i), x, y, d) = true then putL h x ((w, i), 0) else h)))])
    by_cases hb : bgn ((w, i), x, y, d) = true
    case neg =>
      rw [if_neg hb, if_neg hb]
      simp only [pushK, Res.ok_bind]
      exact dcB ss h (by omega)
    case pos =>
      rw [if_pos hb, if_pos hb]
      have e2 : pushK st.length (some (.int x, ahD ((w, i), 0))) (st ++ [.dK (encF ahD h)]) = .ok () (st ++ [.dK (encF ahD (putL h x ((w, i), 0)))]) := by
        have at1 : (st ++ [Cell.dK (encF ahD h)])[st.length]? = some (.dK (encF ahD h)) := by simp
        have hz : (encF ahD h).length < LINE := by
          have : (encF ahD h).length = h.length := by simp [encF]
          show _ < 16777216
          omega
        simp only [pushK, at1, keyD, hz, if_true, putD_enc]
        simp
      have hz2 := (put_len h x (((w, i), 0) : Nm × Int)).2
      simp only [e2, Res.ok_bind]
      exact dcB ss _ (by omega)
theorem mergeB : ∀ (E h : Ah), (∀ z ∈ E, lk h z.1 = none) → (E.map (·.1)).Nodup → mergeDs (encF ahD h) (encF ahD E) = encF ahD (h ++ E)
  | [], h, _, _ => by simp [mergeDs, encF]
  | z :: E, h, hh, hd => by
    rw [List.map_cons, List.nodup_cons] at hd
    have e : mergeDs (encF ahD h) (encF ahD (z :: E)) = mergeDs (putD (encF ahD h) (.inl z.1) (ahD z.2)) (encF ahD E) := rfl
    have p : putL h z.1 z.2 = h ++ [z] := by
      unfold putL
      rw [any_lk, hh z List.mem_cons_self]
      rfl
    rw [e, putD_enc, p, mergeB E (h ++ [z]) (fun x hx => ?_) hd.2]
    · simp
    · rw [lk_app, hh x (List.mem_cons_of_mem _ hx), lk_cons, lk_nil]
      have : z.1 ≠ x.1 := fun e => hd.1 (List.mem_map.mpr ⟨x, hx, e.symm⟩)
      simp [this]
theorem below_ah (n : Nat) (A : Ah) : (Cell.dK (encF ahD A)).below n = true := by
  show belowL n ((encF ahD A).map (·.2)) = true
  exact belowL_mem fun d hd => by
    obtain ⟨kv, hkv, rfl⟩ := List.mem_map.mp hd
    obtain ⟨z, _, rfl⟩ := List.mem_map.mp hkv
    rfl
theorem tidyB (T : Tmd) (A E : Ah) (ρ : VI.Env) : tidyR (TA st T []) ρ (TA st T A ++ [.dK (encF ahD E)]) = .nx ρ (TA st T A) := by
  have ll : (TA st T []).length = (TA st T A).length := by simp
  have c : clean2 (TA st T []) (TA st T A ++ [.dK (encF ahD E)]) = true := by
    unfold clean2
    rw [Bool.and_eq_true, decide_eq_true_eq, List.all_eq_true]
    refine ⟨by simp, fun i hi => ?_⟩
    rw [List.mem_range] at hi
    unfold cell2
    by_cases e : i = st.length + 1
    · subst e
      have e1 : (TA st T A ++ [Cell.dK (encF ahD E)])[st.length + 1]? = some (.dK (encF ahD A)) := by
        rw [List.getElem?_append_left (by rw [← ll]; exact hi)]; exact ta_a
      rw [e1]
      simp only [below_ah, Bool.or_true]
    · have hlt : i < st.length + 1 := by
        have : i < st.length + 2 := by simpa using hi
        omega
      have h2 : ∀ A : Ah, (TA st T A)[i]? = (st ++ [Cell.dK (encF D.int T)])[i]? := fun A => by
        have : TA st T A = (st ++ [Cell.dK (encF D.int T)]) ++ [.dK (encF ahD A)] := by simp
        rw [this, List.getElem?_append_left (by simp; omega)]
      have e1 : (TA st T A ++ [Cell.dK (encF ahD E)])[i]? = (st ++ [Cell.dK (encF D.int T)])[i]? := by
        rw [List.getElem?_append_left (by rw [← ll]; exact hi), h2]
      rw [e1, h2]
      have hl : i < (st ++ [Cell.dK (encF D.int T)]).length := by simp; omega
      rw [List.getElem?_eq_getElem hl]
      simp
  unfold tidyR
  rw [if_pos c, ll, List.take_left]
end
end G15
set_option maxHeartbeats 4000000
namespace G15
open PySem PySem.Spec PyProof.Rows L2 VI
section
variable {st : Mem} {ms : List Int} {rs : List Rw}
theorem bgn_iff {r : Rw} : bgn r = true ↔ r.1.1 = "begin" ∧ r.2.1 ≠ 0 ∧ r.2.2.2 = 0 := by
  unfold bgn
  simp only [Bool.and_eq_true, Bool.not_eq_true', beq_iff_eq, beq_eq_false_iff_ne, ne_eq]
theorem led_start (hm : ms.Nodup) (hrs : ∀ r ∈ rs, r.2.1 ∈ ms ∧ r.2.2.1 ∈ ms) (h0 : (0 : Int) ∈ ms) (hb1 : ∀ r ∈ rs, r.1.1 = "begin" → r.2.2.1 = 0) (hb2 : ∀ x ∈ ms, x ≠ 0 → ∃ r ∈ rs, bgn r = true ∧ r.2.1 = x) :
    Led ms rs (putAll0 (fun _ => (0 : Int)) ms []) (bgnAll rs []) := by
  have hT : ∀ x, x ∈ ms → lk (putAll0 (fun _ => (0 : Int)) ms []) x = some 0 := fun x hx => by rw [lk_putAll0, if_pos hx]
  have tv0 : ∀ x, x ∈ ms → tv (putAll0 (fun _ => (0 : Int)) ms []) x = 0 := fun x hx => by unfold tv; rw [hT x hx]; rfl
  have hA : ∀ x v, lk (bgnAll rs []) x = some v → x ∈ ms ∧ x ≠ 0 ∧ v.2 = 0 ∧ (v.1, x, v.2, 0) ∈ rs := by
    refine bgnAll_lk (fun x v => x ∈ ms ∧ x ≠ 0 ∧ v.2 = 0 ∧ (v.1, x, v.2, 0) ∈ rs) rs [] (fun r hr hb => ?_) (fun x v e => by cases e)
    obtain ⟨b1, b2, b3⟩ := bgn_iff.mp hb
    obtain ⟨nm, x, y, d⟩ := r
    simp only at b1 b2 b3
    have := hb1 _ hr b1
    simp only at this
    subst this b3
    exact ⟨(hrs _ hr).1, b2, rfl, hr⟩
  have hn : lk (bgnAll rs []) 0 = none := by
    cases e : lk (bgnAll rs []) 0 with
    | none => rfl
    | some v => exact absurd rfl (hA 0 v e).2.1
  refine ⟨fun x hx => by rw [hT x hx]; rfl, tv0 0 h0, fun x hx => by rw [tv0 x hx]; exact Int.le_refl _, bgnAll_nd rs [] (by simp), fun x hx => ?_, fun x nm y e => ?_, fun x hx => ?_⟩
  · obtain ⟨v, hv⟩ := Option.isSome_iff_exists.mp (lk_some.mpr hx)
    exact (hA x v hv).1
  · obtain ⟨a, b, c, d⟩ := hA x _ e
    simp only at c d
    subst c
    exact ⟨a, h0, 0, d, by rw [tv0 x a, tv0 0 h0]; decide⟩
  · by_cases hx0 : x = 0
    · subst hx0; exact ⟨0, rfl, hn⟩
    · have := bgnAll_has rs [] x (.inr (hb2 x hx hx0))
      obtain ⟨⟨nm, w⟩, hv⟩ := Option.isSome_iff_exists.mp this
      have := (hA x _ hv).2.2.1
      simp only at this
      subst this
      exact ⟨1, nm, 0, hv, rfl, hn⟩
theorem soonest_eq {Dm : Nat} (hl : ms.length ≤ 15) (hm : ms.Nodup) (h0 : (0 : Int) ∈ ms) (hrs : ∀ r ∈ rs, r.2.1 ∈ ms ∧ r.2.2.1 ∈ ms) (hD : ∀ r ∈ rs, -(Dm : Int) ≤ r.2.2.2) (hDm : Dm ≤ 1000) (hr1 : rs.length ≤ 900)
    (hb1 : ∀ r ∈ rs, r.1.1 = "begin" → r.2.2.1 = 0) (hb2 : ∀ x ∈ ms, x ≠ 0 → ∃ r ∈ rs, bgn r = true ∧ r.2.1 = x) :
    (∃ ns, RingOk rs ns ∧ F_soonest_in [.lst (ms.map .int), .lst (rs.map rwD)] st = .ok (.tup [.str "ring", .tup (ns.map nmD)]) st) ∨
    (∃ T : Tmd, tv T 0 = 0 ∧ (∀ x ∈ ms, 0 ≤ tv T x) ∧ (∀ r ∈ rs, tv T r.2.2.1 - r.2.2.2 ≤ tv T r.2.1) ∧ F_soonest_in [.lst (ms.map .int), .lst (rs.map rwD)] st = .ok (.tup [.str "times", il (ms.map (tv T))]) st) := by
  have L := led_start hm hrs h0 hb1 hb2
  generalize hT0 : putAll0 (fun _ => (0 : Int)) ms [] = T0 at L
  generalize hA0 : bgnAll rs [] = A0 at L
  have lT : T0.length ≤ 900 := by
    have := putAll0_len (v := fun _ => (0 : Int)) ms ([] : Tmd)
    rw [hT0] at this
    simp only [List.length_nil] at this
    omega
  have lA : A0.length ≤ 900 := by
    have := bgnAll_len rs []
    rw [hA0] at this
    simp only [List.length_nil] at this
    omega
  -- the begin
  have e1 : mDC (mIt (mVar 0)) (gNm 6) (mYes) (mVar 6) (mC (.int 0)) [6] [some (.lst (ms.map .int)), some (.lst (rs.map rwD)), none, none, none, none, none, none, none, none, none] st = .ok (.loc st.length) (st ++ [.dK (encF D.int T0)]) := by
    unfold mDC
    have key := dcI (st := st) (i := 6) (ρ := [some (.lst (ms.map .int)), some (.lst (rs.map rwD)), none, none, none, none, none, none, none, none, none]) (by simp) ms [] (by simp; omega)
    have d0 : encF D.int ([] : Tmd) = [] := rfl
    rw [d0, hT0] at key
    simp only [ap_it, mVar, List.getElem?_cons_zero, Res.ok_bind, frz_lst, key]
  have e2 : mDC (mIt (mVar 1)) tgB tB (m2 ixD (mVar 10) (mC (.int 0))) (mTup [mVar 5, mC (.int 0)]) [5, 10] (ENV (some (.lst (ms.map .int))) (some (.lst (rs.map rwD))) st.length true none none none none none none) (TA st T0 []) = .ok (.loc (st.length + 2)) (TA st T0 [] ++ [.dK (encF ahD A0)]) := by
    unfold mDC
    have key := dcB (st := TA st T0 []) (m0 := some (.lst (ms.map .int))) (m1 := some (.lst (rs.map rwD))) (n := st.length) (o := true) (x5 := none) (x6 := none) (x7 := none) (x8 := none) (x9 := none) (x10 := none) rs [] (by simp; omega)
    have d0 : encF ahD ([] : Ah) = [] := rfl
    rw [d0, hA0] at key
    have lta : (TA st T0 []).length = st.length + 2 := by simp
    simp only [ap_it, mVar, List.getElem?_cons_succ, List.getElem?_cons_zero, Res.ok_bind, frz_lst]
    rw [key]
    simp only [Res.ok_bind, lta]
  have e3 : updateD (.loc (st.length + 1)) [.loc (st.length + 2)] (TA st T0 [] ++ [.dK (encF ahD A0)]) = .ok .non (TA st T0 A0 ++ [.dK (encF ahD A0)]) := by
    have g1 : (TA st T0 [] ++ [Cell.dK (encF ahD A0)])[st.length + 1]? = some (.dK (encF ahD [])) := by
      rw [List.getElem?_append_left (by simp)]; exact ta_a
    have g2 : (TA st T0 [] ++ [Cell.dK (encF ahD A0)])[st.length + 2]? = some (.dK (encF ahD A0)) := by
      have lta : (TA st T0 []).length = st.length + 2 := by simp
      rw [List.getElem?_append_right (by omega), lta]; simp
    have hz : (encF ahD ([] : Ah)).length + (encF ahD A0).length ≤ LINE := by
      simp only [encF, List.length_map, List.length_nil]
      show _ ≤ 16777216
      omega
    have mg := mergeB A0 [] (fun _ _ => rfl) L.ad
    rw [List.nil_append] at mg
    unfold updateD
    simp only [g1, g2, hz, if_true]
    rw [if_neg (by omega), mg]
    simp
  have t1 : isT "dict" (.loc (st.length + 1)) (TA st T0 []) = true := by simp [isT]
  -- the laps
  have pt : pot ms (ms.length * Dm) T0 ≤ 15 * 15000 := by
    have h1 : ms.length * Dm ≤ 15 * 1000 := Nat.mul_le_mul hl hDm
    have h2 : pot ms (ms.length * Dm) T0 ≤ ms.length * 15000 := sum_le_mul fun y hy => by
      have := L.tn y hy
      omega
    exact Nat.le_trans h2 (Nat.mul_le_mul_right _ hl)
  have run : m_soonest_in [some (.lst (ms.map .int)), some (.lst (rs.map rwD)), none, none, none, none, none, none, none, none, none] st =
      (whL 1000000 (asT (mVar 4)) b_soonest_in_3 (ENV (some (.lst (ms.map .int))) (some (.lst (rs.map rwD))) st.length true none none none none none none) (TA st T0 A0)).seq q_soonest_in_13 := by
    have mk : ∀ ρ, mNewK ρ (st ++ [.dK (encF D.int T0)]) = .ok (.loc (st.length + 1)) (TA st T0 []) := fun ρ => by
      unfold mNewK
      simp [encF]
    simp only [m_soonest_in, ap_seq, ap_asg, ap_tup, ap_args1, ap_args0, e1, Res.ok_bind, mk, ap_c, Res.ok_toS, gTp_tup, List.length_cons, List.length_nil, if_true, gsCons_c, gsNil_n, ap_gNm, List.set_cons_succ, List.set_cons_zero, RS.nx_seq, q_soonest_in_2, ap_dropT, ap_bm, mVar, List.getElem?_cons_succ, List.getElem?_cons_zero, t1, e2, e3, tidyB, q_soonest_in_3]
    rfl
  have st0 : F_soonest_in [.lst (ms.map .int), .lst (rs.map rwD)] st = dropR st (endS (m_soonest_in [some (.lst (ms.map .int)), some (.lst (rs.map rwD)), none, none, none, none, none, none, none, none, none] st)) := rfl
  rcases loopS (st := st) (m0 := some (.lst (ms.map .int))) hl hm hrs hD (15 * 15000) T0 A0 L lT pt 1000000 (by decide) none none none none none none with ⟨ns, st', h1, h2⟩ | ⟨T, A, y5, y6, y7, y8, y9, h1, h2, h3⟩
  · refine .inl ⟨ns, h1, ?_⟩
    rw [st0, run, h2]
    have bn : belowD st.length (.tup [.str "ring", .tup (ns.map nmD)]) = true := by
      have : belowL st.length (ns.map nmD) = true := belowL_mem fun d hd => by
        obtain ⟨z, _, rfl⟩ := List.mem_map.mp hd
        rfl
      simp only [belowD, belowL, this, Bool.and_self]
    simp only [RS.rt_seq, endS_rt, dropR, bn, clean_app, Bool.and_self, if_true, List.take_left]
  · refine .inr ⟨T, h1.t0, h1.tn, h2, ?_⟩
    have c1 : mLC finF (mIt (mVar 0)) (gNm 6) (mYes) (m2 ixD (mVar 2) (mVar 6)) [6] (ENV (some (.lst (ms.map .int))) (some (.lst (rs.map rwD))) st.length false y5 y6 y7 y8 y9 none) (TA st T A) = .ok (.lst ((ms.map (tv T)).map .int)) (TA st T A) := by
      rw [lc_pureL (xs := ms) (g0 := D.int) (F := fun x => some (.int (tv T x))) (by simp only [ap_it, mVar, List.getElem?_cons_zero, Res.ok_bind, frz_lst]) (fun x hx acc => ?_) (by omega) (fun _ _ _ h => by cases h; rfl), filterMap_some, List.map_map]
      · rfl
      · have hs : (TA st T A ++ [Cell.lst acc])[st.length]? = some (.dK (encF D.int T)) := by
          rw [List.getElem?_append_left (by simp)]; exact ta_t
        simp only [stepL, wipeE, ap_gNm, ap_yes, ap_m2, mVar, List.set_cons_succ, List.set_cons_zero, List.getElem?_cons_succ, List.getElem?_cons_zero, Res.ok_bind, ixD_enc hs (tv_of (h1.tk x hx)), Res.noX_ok, if_true]
    rw [st0, run, h3]
    have bn : belowD st.length (.tup [.str "times", il (ms.map (tv T))]) = true := by
      simp only [belowD, belowL, below_ints, Bool.and_self]
    have tt : ∀ s, tupleD (.lst ((ms.map (tv T)).map .int)) s = .ok (il (ms.map (tv T))) s := fun s => rfl
    simp only [RS.nx_seq, q_soonest_in_13, ap_ret, ap_tup, ap_args1, ap_args0, ap_c, ap_mF, Res.ok_bind, c1, ap_f1, tt, Res.ok_toS, endS_rt, dropR, bn, clean_app, Bool.and_self, if_true, List.take_left]
end
end G15
set_option maxHeartbeats 4000000
namespace G15
open PySem PySem.Spec PyProof.Rows L2 VI
abbrev T3 := Int × Int × Int
def base (N : Net) (x : Int) : T3 := match N.ls.find? fun l => decide (l.2.1 = x) with
  | some l => (l.1, l.2.2.1, l.2.2.2)
  | none => (x, 0, 0)
def tgR (N : Net) (k : Nat) (z : Gp) : Rw := (("told", ((k : Nat) : Int)), (base N z.1).1, (base N z.2.1).1, z.2.2 + (base N z.1).2.1 - (base N z.2.1).2.2)
def tg (N : Net) : Nat → List Gp → List Rw
  | _, [] => []
  | k, z :: gs => tgR N k z :: tg N (k + 1) gs
def bgR (N : Net) (y : Int) : Rw := (("begin", y), (base N y).1, 0, (base N y).2.1)
def tight (N : Net) : List Rw := tg N 0 N.gs ++ (Pl.irange 1 N.m).map (bgR N)
def setB (B : List T3) (ls : List Lk) : List T3 := ls.foldl (fun B l => B.set l.2.1.toNat (l.1, l.2.2.1, l.2.2.2)) B
section
variable {st : Mem} {N : Net}
theorem setB_len : ∀ (ls : List Lk) (B : List T3), (setB B ls).length = B.length
  | [], _ => rfl
  | l :: ls, B => by
    show (setB (B.set _ _) ls).length = _
    rw [setB_len, List.length_set]
theorem setB_get {x : Int} (hx : 0 ≤ x) : ∀ (ls : List Lk) (B : List T3), (∀ l ∈ ls, 0 ≤ l.2.1 ∧ l.2.1.toNat < B.length) → (ls.map (·.2.1)).Pairwise (· < ·) →
    (setB B ls)[x.toNat]? = match ls.find? fun l => decide (l.2.1 = x) with
      | some l => some (l.1, l.2.2.1, l.2.2.2)
      | none => B[x.toNat]?
  | [], B, _, _ => rfl
  | l :: ls, B, h, hp => by
    rw [List.map_cons, List.pairwise_cons] at hp
    show (setB (B.set l.2.1.toNat (l.1, l.2.2.1, l.2.2.2)) ls)[x.toNat]? = _
    rw [setB_get hx ls _ (fun q hq => by rw [List.length_set]; exact h q (List.mem_cons_of_mem _ hq)) hp.2, List.find?_cons]
    have hl := h l List.mem_cons_self
    by_cases e : l.2.1 = x
    · have nf : (ls.find? fun l => decide (l.2.1 = x)) = none := List.find?_eq_none.mpr fun q hq => by
        have := hp.1 q.2.1 (List.mem_map.mpr ⟨q, hq, rfl⟩)
        simp only [decide_eq_true_eq]
        omega
      rw [nf, decide_eq_true e]
      simp only
      rw [← e]
      simp [hl.2]
    · rw [decide_eq_false e]
      simp only
      cases ls.find? fun l => decide (l.2.1 = x) with
      | some q => rfl
      | none => exact List.getElem?_set_ne (by omega)
theorem setB_eq (ok : N.Ok) : setB (N.all.map fun x => (x, 0, 0)) N.ls = N.all.map (base N) := by
  have al : N.all.length = N.m := by simp [Net.all]
  refine List.ext_getElem? fun i => ?_
  by_cases hi : i < N.m
  · have hb := setB_get (x := (i : Nat)) (by omega) N.ls (N.all.map fun x => ((x, 0, 0) : T3)) (fun l hl => by have := ok.lk l hl; rw [List.length_map, al]; omega) ok.asc
    rw [Int.toNat_natCast] at hb
    rw [hb]
    have ai : N.all[i]? = some ((i : Nat) : Int) := by simp [Net.all, hi]
    rw [List.getElem?_map, List.getElem?_map, ai]
    simp only [Option.map_some, base]
    cases N.ls.find? fun l => decide (l.2.1 = ((i : Nat) : Int)) <;> rfl
  · rw [List.getElem?_eq_none (by rw [setB_len, List.length_map, al]; omega), List.getElem?_eq_none (by rw [List.length_map, al]; omega)]
theorem base_ix (ok : N.Ok) {x : Int} (hx : x ∈ N.all) : ixD (.lst ((N.all.map (base N)).map gp3)) (.int x) st = .ok (gp3 (base N x)) st := by
  have h := mem_all.mp hx
  refine ix_lst h.1 ?_
  have ai : N.all[x.toNat]? = some x := by
    have : x.toNat < N.m := by omega
    simp [Net.all, this]; omega
  rw [List.getElem?_map, List.getElem?_map, ai]; rfl
theorem big_rng (ok : N.Ok) (ρ' : List (Option D)) (s : Mem) : mRng1 (m2 ixD (mVar 0) (mC (.int 0))) (some N.d :: ρ') s = .ok (N.all.map .int) s := by
  simp only [ap_rng1, ap_m2, mVar, List.getElem?_cons_zero, Res.ok_bind, ap_c, N.ix0, big_m ok, if_true, Int.toNat_natCast]
  rw [rangeL_0]; rfl
theorem loopB {a0 : Option D} : ∀ (ls : List Lk) (B : List T3), (∀ l ∈ ls, 0 ≤ l.2.1 ∧ l.2.1 < B.length) → ∀ x2 x3 x4 x5 x6 : Option D, ∃ y2 y3 y4 y5,
    forL (ls.map lkD) (stepF (gTp 4 (gsCons (gNm 2) (gsCons (gNm 3) (gsCons (gNm 4) (gsCons (gNm 5) (gsNil)))))) b_bases_in_2) [a0, some (.loc st.length), x2, x3, x4, x5, x6] (st ++ [.lst (B.map gp3)]) =
      .nx [a0, some (.loc st.length), y2, y3, y4, y5, x6] (st ++ [.lst ((setB B ls).map gp3)])
  | [], B, _, x2, x3, x4, x5, x6 => ⟨x2, x3, x4, x5, rfl⟩
  | l :: ls, B, h, x2, x3, x4, x5, x6 => by
    obtain ⟨a, c, lo, hi⟩ := l
    have hl := h _ List.mem_cons_self
    simp only at hl
    obtain ⟨y2, y3, y4, y5, ih⟩ := loopB (a0 := a0) ls (B.set c.toNat (a, lo, hi)) (fun q hq => by rw [List.length_set]; exact h q (List.mem_cons_of_mem _ hq)) (some (.int a)) (some (.int c)) (some (.int lo)) (some (.int hi)) x6
    refine ⟨y2, y3, y4, y5, ?_⟩
    show _ = RS.nx _ (st ++ [.lst ((setB (B.set c.toNat (a, lo, hi)) ls).map gp3)])
    rw [← ih]
    have sd : setD (.loc st.length) (.int c) (.tup [.int a, .int lo, .int hi]) (st ++ [.lst (B.map gp3)]) = some (st ++ [.lst ((B.set c.toNat (a, lo, hi)).map gp3)]) := by
      have hi : c.toNat < (B.map gp3).length := by rw [List.length_map]; omega
      have e : ixN (B.map gp3).length c = some c.toNat := by rw [← ixN_nat hi]; congr 1; omega
      have at1 : (st ++ [Cell.lst (B.map gp3)])[st.length]? = some (.lst (B.map gp3)) := by simp
      unfold setD
      simp only [at1, e, Option.map_some]
      simp [List.map_set, gp3]
    simp only [List.map_cons, lkD, forL, stepF, gTp_tup, List.length_cons, List.length_nil, if_true, gsCons_c, gsNil_n, ap_gNm, List.set_cons_succ, List.set_cons_zero, b_bases_in_2, ap_asg, ap_tup, ap_args1, ap_args0, mVar, List.getElem?_cons_succ, List.getElem?_cons_zero, Res.ok_bind, Res.ok_toS, ap_gSub, sd]
theorem gp3_below (n : Nat) (B : List T3) : belowL n (B.map gp3) = true := belowL_mem fun d hd => by
  obtain ⟨z, _, rfl⟩ := List.mem_map.mp hd
  rfl
theorem bases_eq (ok : N.Ok) : F_bases_in [N.d] st = .ok (.lst ((N.all.map (base N)).map gp3)) st := by
  have al : N.all.length = N.m := by simp [Net.all]
  have hm := ok.m6
  have c1 : mLC finN (mRng1 (m2 ixD (mVar 0) (mC (.int 0)))) (gNm 6) (mYes) (mTup [mVar 6, mC (.int 0), mC (.int 0)]) [6] [some N.d, none, none, none, none, none, none] st = .ok (.loc st.length) (st ++ [.lst ((N.all.map fun x => ((x, 0, 0) : T3)).map gp3)]) := by
    unfold mLC
    rw [big_rng ok, Res.ok_bind, lcL_pureL (xs := N.all) (g0 := D.int) (F := fun x => some (gp3 (x, 0, 0))) (fun x hx acc => ?_) (by simp; omega)]
    · simp only [Res.ok_bind, finN, List.nil_append]
      rw [filterMap_some, List.map_map]
      rfl
    · simp only [stepL, wipeE, ap_gNm, ap_yes, ap_tup, ap_args1, ap_args0, ap_c, mVar, List.set_cons_succ, List.set_cons_zero, List.getElem?_cons_succ, List.getElem?_cons_zero, Res.ok_bind, Res.noX_ok, if_true]
      rfl
  obtain ⟨y2, y3, y4, y5, l1⟩ := loopB (st := st) (a0 := some N.d) N.ls (N.all.map fun x => ((x, 0, 0) : T3)) (fun l hl => by have := ok.lk l hl; rw [List.length_map, al]; omega) none none none none none
  rw [setB_eq ok] at l1
  have run : m_bases_in [some N.d, none, none, none, none, none, none] st = .rt (.loc st.length) (st ++ [.lst ((N.all.map (base N)).map gp3)]) := by
    simp only [m_bases_in, ap_seq, ap_set, c1, Res.ok_toS, List.set_cons_succ, List.set_cons_zero, RS.nx_seq, q_bases_in_2, sFor, ap_it, ap_m2, ap_c, mVar, List.getElem?_cons_succ, List.getElem?_cons_zero, Res.ok_bind, N.ix1, frz_tup, l1, q_bases_in_4, ap_ret]
  show dropF st (endS (m_bases_in [some N.d, none, none, none, none, none, none] st)) = _
  rw [run]
  have at1 : (st ++ [Cell.lst ((N.all.map (base N)).map gp3)])[st.length]? = some (.lst ((N.all.map (base N)).map gp3)) := by simp
  simp only [endS_rt, dropF, at1, gp3_below, clean_app, Nat.le_refl, decide_true, Bool.and_self, if_true, List.take_left]
/-! tight_in -/
def en {α : Type} (f : α → D) : Nat → List α → List D
  | _, [] => []
  | k, x :: xs => .tup [.int (k : Nat), f x] :: en f (k + 1) xs
theorem en_eq {α : Type} (f : α → D) (xs : List α) : enumD (xs.map f) = en f 0 xs := by
  have key : ∀ (xs : List α) (k : Nat), (xs.map f).mapIdx (fun i x => D.tup [.int ((i + k : Nat)), x]) = en f k xs := by
    intro xs
    induction xs with
    | nil => intro k; rfl
    | cons x xs ih =>
      intro k
      rw [List.map_cons, List.mapIdx_cons]
      simp only [en, Nat.zero_add]
      rw [← ih (k + 1)]
      congr 1
      congr 1
      funext i y
      rw [show i + 1 + k = i + (k + 1) by omega]
  have := key xs 0
  simpa [enumD] using this
abbrev tgT : MG := gTp 2 (gsCons (gNm 3) (gsCons (gTp 3 (gsCons (gNm 4) (gsCons (gNm 5) (gsCons (gNm 6) (gsNil))))) (gsNil)))
theorem rw_app (rs : List Rw) (r : Rw) (hl : rs.length ≤ 1000) : appendD (.loc st.length) [rwD r] (st ++ [.lst (rs.map rwD)]) = .ok .non (st ++ [.lst ((rs ++ [r]).map rwD)]) := by
  have e : (st ++ [Cell.lst (rs.map rwD)])[st.length]? = some (.lst (rs.map rwD)) := by simp
  have hz : (rs.map rwD).length < LINE := by rw [List.length_map]; show _ < 16777216; omega
  unfold appendD
  simp only [e, hz, if_true]
  simp
theorem loopT (ok : N.Ok) : ∀ (gs : List Gp) (k : Nat) (rs : List Rw), (∀ g ∈ gs, g.1 ∈ N.all ∧ g.2.1 ∈ N.all) → rs.length + gs.length ≤ 900 → ∀ x3 x4 x5 x6 x7 x8 x9 x10 x11 x12 : Option D, ∃ y3 y4 y5 y6 y7 y8 y9 y10 y11 y12,
    forL (en gpD k gs) (stepF tgT b_tight_in_2) [some N.d, some (.lst ((N.all.map (base N)).map gp3)), some (.loc st.length), x3, x4, x5, x6, x7, x8, x9, x10, x11, x12] (st ++ [.lst (rs.map rwD)]) =
      .nx [some N.d, some (.lst ((N.all.map (base N)).map gp3)), some (.loc st.length), y3, y4, y5, y6, y7, y8, y9, y10, y11, y12] (st ++ [.lst ((rs ++ tg N k gs).map rwD)])
  | [], k, rs, _, _, x3, x4, x5, x6, x7, x8, x9, x10, x11, x12 => ⟨x3, x4, x5, x6, x7, x8, x9, x10, x11, x12, by simp [en, forL, tg]⟩
  | z :: gs, k, rs, h, hl, x3, x4, x5, x6, x7, x8, x9, x10, x11, x12 => by
    obtain ⟨x, y, d⟩ := z
    have hz := h _ List.mem_cons_self
    simp only at hz
    simp only [List.length_cons] at hl
    obtain ⟨y3, y4, y5, y6, y7, y8, y9, y10, y11, y12, ih⟩ := loopT ok gs (k + 1) (rs ++ [tgR N k (x, y, d)]) (fun q hq => h q (List.mem_cons_of_mem _ hq)) (by simp only [List.length_append, List.length_singleton]; omega)
      (some (.int (k : Nat))) (some (.int x)) (some (.int y)) (some (.int d)) (some (.int (base N x).1)) (some (.int (base N x).2.1)) (some (.int (base N x).2.2)) (some (.int (base N y).1)) (some (.int (base N y).2.1)) (some (.int (base N y).2.2))
    refine ⟨y3, y4, y5, y6, y7, y8, y9, y10, y11, y12, ?_⟩
    have ee : rs ++ tg N k ((x, y, d) :: gs) = (rs ++ [tgR N k (x, y, d)]) ++ tg N (k + 1) gs := by simp [tg]
    rw [ee, ← ih]
    have ap := rw_app (st := st) rs (tgR N k (x, y, d)) (by omega)
    have er : rwD (tgR N k (x, y, d)) = .tup [.tup [.str "told", .int (k : Nat)], .tup [.int (base N x).1, .int (base N y).1, .int (d + (base N x).2.1 - (base N y).2.2)]] := rfl
    rw [er] at ap
    have tl : isT "list" (.loc st.length) (st ++ [.lst (rs.map rwD)]) = true := by simp [isT]
    simp only [en, gpD, forL, stepF, gTp_tup, List.length_cons, List.length_nil, if_true, gsCons_c, gsNil_n, ap_gNm, List.set_cons_succ, List.set_cons_zero, b_tight_in_2, ap_seq, ap_asg, ap_tup, ap_args1, ap_args0, ap_m2, ap_c, mVar, List.getElem?_cons_succ, List.getElem?_cons_zero, Res.ok_bind, base_ix ok hz.1, base_ix ok hz.2, gp3, Res.ok_toS, RS.nx_seq, q_tight_in_4, ap_drop, ap_bm]
    simp only [tl, if_true, addD_int, subD_int, Res.ok_bind, ap, Res.ok_toS]
theorem tg_len : ∀ (gs : List Gp) (k : Nat), (tg N k gs).length = gs.length
  | [], _ => rfl
  | z :: gs, k => by simp [tg, tg_len gs (k + 1)]
theorem tight_eq (ok : N.Ok) : F_tight_in [N.d] st = .ok (.lst ((tight N).map rwD)) st := by
  have hm := ok.m6
  have hm2 := ok.m2
  have h15 := ok.g15
  obtain ⟨y3, y4, y5, y6, y7, y8, y9, y10, y11, y12, l1⟩ := loopT (st := st) ok N.gs 0 [] (fun g hg => by have := ok.gp g hg; exact ⟨mem_all.mpr ⟨this.1, this.2.1⟩, mem_all.mpr ⟨this.2.2.1, this.2.2.2.1⟩⟩) (by simp; omega) none none none none none none none none none none
  simp only [List.map_nil, List.nil_append] at l1
  have c1 : mLC finF (mRng2 (mC (.int 1)) (m2 ixD (mVar 0) (mC (.int 0)))) (gNm 5) (mYes) (mTup [mTup [mC (.str "begin"), mVar 5], mTup [m2 ixD (m2 ixD (mVar 1) (mVar 5)) (mC (.int 0)), mC (.int 0), m2 ixD (m2 ixD (mVar 1) (mVar 5)) (mC (.int 1))]]) [5]
      [some N.d, some (.lst ((N.all.map (base N)).map gp3)), some (.loc st.length), y3, y4, y5, y6, y7, y8, y9, y10, y11, y12] (st ++ [.lst ((tg N 0 N.gs).map rwD)]) = .ok (.lst (((Pl.irange 1 N.m).map (bgR N)).map rwD)) (st ++ [.lst ((tg N 0 N.gs).map rwD)]) := by
    have ei : mRng2 (mC (.int 1)) (m2 ixD (mVar 0) (mC (.int 0))) [some N.d, some (.lst ((N.all.map (base N)).map gp3)), some (.loc st.length), y3, y4, y5, y6, y7, y8, y9, y10, y11, y12] (st ++ [.lst ((tg N 0 N.gs).map rwD)]) = .ok ((Pl.irange 1 N.m).map .int) (st ++ [.lst ((tg N 0 N.gs).map rwD)]) := by
      have b1 : big62 1 = true := small_big (by decide) (by decide)
      unfold mRng2
      simp only [ap_c, ap_m2, mVar, List.getElem?_cons_zero, Res.ok_bind, N.ix0, b1, big_m ok, and_self, if_true, rangeL_eq]
    rw [lc_mapL (xs := Pl.irange 1 N.m) (g0 := D.int) (fun y => rwD (bgR N y)) ei (fun y hy st' => ?_) (by rw [Pl.length_irange]; omega) (fun _ _ => rfl), List.map_map]
    · rfl
    · have hy' := Pl.mem_irange.mp hy
      have ya : y ∈ N.all := mem_all.mpr ⟨by omega, hy'.2⟩
      simp only [stepL, wipeE, ap_gNm, ap_yes, ap_tup, ap_args1, ap_args0, ap_m2, ap_c, mVar, List.set_cons_succ, List.set_cons_zero, List.getElem?_cons_succ, List.getElem?_cons_zero, Res.ok_bind, base_ix ok ya, gp3, ixd0, ixd1, Res.noX_ok, if_true]
      rfl
  have tl : isT "list" (.loc st.length) (st ++ [.lst ((tg N 0 N.gs).map rwD)]) = true := by simp [isT]
  have ex : extendD (.loc st.length) [.lst (((Pl.irange 1 N.m).map (bgR N)).map rwD)] (st ++ [.lst ((tg N 0 N.gs).map rwD)]) = .ok .non (st ++ [.lst ((tight N).map rwD)]) := by
    have e : (st ++ [Cell.lst ((tg N 0 N.gs).map rwD)])[st.length]? = some (.lst ((tg N 0 N.gs).map rwD)) := by simp
    have hz : ((tg N 0 N.gs).map rwD).length + (((Pl.irange 1 N.m).map (bgR N)).map rwD).length ≤ LINE := by
      rw [List.length_map, List.length_map, List.length_map, tg_len, Pl.length_irange]
      show _ ≤ 16777216
      omega
    unfold extendD
    simp only [e, hz, if_true]
    simp [tight]
  have run : m_tight_in [some N.d, none, none, none, none, none, none, none, none, none, none, none, none] st = .rt (.loc st.length) (st ++ [.lst ((tight N).map rwD)]) := by
    have k1 : ∀ ρ, mEnum (m2 ixD (mVar 0) (mC (.int 2))) (some N.d :: ρ) (st ++ [.lst []]) = .ok (en gpD 0 N.gs) (st ++ [.lst []]) := fun ρ => by
      simp [mVar, N.ix2, en_eq]
    simp only [m_tight_in, ap_seq, ap_asg, ap_tup, ap_args1, ap_args0, ap_mF, mVar, List.getElem?_cons_succ, List.getElem?_cons_zero, Res.ok_bind, bases_eq ok, ap_lst, ap_mkN, Res.ok_toS, gTp_tup, List.length_cons, List.length_nil, if_true, gsCons_c, gsNil_n, ap_gNm, List.set_cons_succ, List.set_cons_zero, RS.nx_seq, q_tight_in_2, sFor, k1, l1, q_tight_in_5, ap_drop, ap_bm, tl, c1, ex, q_tight_in_6, ap_ret]
  show dropF st (endS (m_tight_in [some N.d, none, none, none, none, none, none, none, none, none, none, none, none] st)) = _
  rw [run]
  have at1 : (st ++ [Cell.lst ((tight N).map rwD)])[st.length]? = some (.lst ((tight N).map rwD)) := by simp
  have bl : belowL st.length ((tight N).map rwD) = true := belowL_mem fun d hd => by
    obtain ⟨z, _, rfl⟩ := List.mem_map.mp hd
    rfl
  simp only [endS_rt, dropF, at1, bl, clean_app, Nat.le_refl, decide_true, Bool.and_self, if_true, List.take_left]
end
end G15
set_option maxHeartbeats 4000000
namespace G15
open PySem PySem.Spec PyProof.Rows L2 VI
section
variable {st : Mem} {N : Net}
theorem base_cases (ok : N.Ok) {x : Int} (hx : x ∈ N.all) : (x ∈ N.ours ∧ base N x = (x, 0, 0)) ∨ (∃ l ∈ N.ls, l.2.1 = x ∧ base N x = (l.1, l.2.2.1, l.2.2.2)) := by
  unfold base
  cases h : N.ls.find? fun l => decide (l.2.1 = x) with
  | some l =>
    refine .inr ⟨l, List.mem_of_find?_eq_some h, ?_, rfl⟩
    have := List.find?_some h
    simpa using this
  | none =>
    refine .inl ⟨mem_ours.mpr ⟨mem_all.mp hx, fun hE => ?_⟩, rfl⟩
    obtain ⟨l, hl, e⟩ := List.mem_map.mp hE
    have := List.find?_eq_none.mp h l hl
    simp [e] at this
theorem base_fact (ok : N.Ok) {x : Int} (hx : x ∈ N.all) : (base N x).1 ∈ N.ours ∧ 0 ≤ (base N x).2.1 ∧ (base N x).2.1 ≤ (base N x).2.2 ∧ (base N x).2.2 ≤ 99 := by
  rcases base_cases ok hx with ⟨h, e⟩ | ⟨l, hl, _, e⟩ <;> rw [e]
  · exact ⟨h, by simp, by simp, by simp⟩
  · have := ok.lk l hl
    exact ⟨mem_ours.mpr ⟨⟨this.1, this.2.1⟩, ok.src l hl⟩, by show 0 ≤ l.2.2.1; omega, this.2.2.2.2.2.2.1, this.2.2.2.2.2.2.2⟩
theorem mem_tg {r : Rw} : ∀ {gs : List Gp} {k : Nat}, r ∈ tg N k gs → ∃ j z, z ∈ gs ∧ k ≤ j ∧ j < k + gs.length ∧ r = tgR N j z
  | [], _, h => by cases h
  | z :: gs, k, h => by
    rcases List.mem_cons.mp h with rfl | h
    · exact ⟨k, z, List.mem_cons_self, Nat.le_refl _, by simp, rfl⟩
    · obtain ⟨j, w, a, b, c, d⟩ := mem_tg h
      exact ⟨j, w, List.mem_cons_of_mem _ a, by omega, by simp only [List.length_cons]; omega, d⟩
theorem mem_tight {r : Rw} (h : r ∈ tight N) : (∃ j z, z ∈ N.gs ∧ r = tgR N j z) ∨ (∃ y : Int, 1 ≤ y ∧ y < N.m ∧ r = bgR N y) := by
  rcases List.mem_append.mp h with h | h
  · obtain ⟨j, z, a, _, _, b⟩ := mem_tg h
    exact .inl ⟨j, z, a, b⟩
  · obtain ⟨y, hy, rfl⟩ := List.mem_map.mp h
    have := Pl.mem_irange.mp hy
    exact .inr ⟨y, this.1, this.2, rfl⟩
theorem gs_all (ok : N.Ok) {z : Gp} (hz : z ∈ N.gs) : z.1 ∈ N.all ∧ z.2.1 ∈ N.all := by
  have := ok.gp z hz
  exact ⟨mem_all.mpr ⟨this.1, this.2.1⟩, mem_all.mpr ⟨this.2.2.1, this.2.2.2.1⟩⟩
theorem told_ne : ("told" : Str) ≠ "begin" := by decide +kernel
theorem tight_fact (ok : N.Ok) : (∀ r ∈ tight N, r.2.1 ∈ N.ours ∧ r.2.2.1 ∈ N.ours) ∧ (∀ r ∈ tight N, -(300 : Nat) ≤ r.2.2.2) ∧ (∀ r ∈ tight N, r.1.1 = "begin" → r.2.2.1 = 0) ∧ (∀ x ∈ N.ours, x ≠ 0 → ∃ r ∈ tight N, bgn r = true ∧ r.2.1 = x) := by
  refine ⟨fun r hr => ?_, fun r hr => ?_, fun r hr hb => ?_, fun x hx h0 => ?_⟩
  · rcases mem_tight hr with ⟨j, z, hz, rfl⟩ | ⟨y, h1, h2, rfl⟩
    · exact ⟨(base_fact ok (gs_all ok hz).1).1, (base_fact ok (gs_all ok hz).2).1⟩
    · exact ⟨(base_fact ok (mem_all.mpr ⟨by omega, h2⟩)).1, zero_ours ok⟩
  · rcases mem_tight hr with ⟨j, z, hz, rfl⟩ | ⟨y, h1, h2, rfl⟩
    · have b1 := base_fact ok (gs_all ok hz).1
      have b2 := base_fact ok (gs_all ok hz).2
      have b3 := ok.gp z hz
      show -((300 : Nat) : Int) ≤ z.2.2 + (base N z.1).2.1 - (base N z.2.1).2.2
      omega
    · have b1 := base_fact ok (mem_all.mpr ⟨by omega, h2⟩ : y ∈ N.all)
      show -((300 : Nat) : Int) ≤ (base N y).2.1
      omega
  · rcases mem_tight hr with ⟨j, z, hz, rfl⟩ | ⟨y, h1, h2, rfl⟩
    · exact absurd hb told_ne
    · rfl
  · have hm := mem_ours.mp hx
    refine ⟨bgR N x, List.mem_append_right _ (List.mem_map.mpr ⟨x, Pl.mem_irange.mpr ⟨by omega, hm.1.2⟩, rfl⟩), ?_, ?_⟩
    · rcases base_cases ok (mem_all.mpr hm.1) with ⟨_, e⟩ | ⟨l, hl, e1, _⟩
      · rw [bgn_iff]
        exact ⟨rfl, by show (base N x).1 ≠ 0; rw [e]; exact h0, by show (base N x).2.1 = 0; rw [e]⟩
      · exact absurd (List.mem_map.mpr ⟨l, hl, e1⟩) hm.2
    · rcases base_cases ok (mem_all.mpr hm.1) with ⟨_, e⟩ | ⟨l, hl, e1, _⟩
      · show (base N x).1 = x; rw [e]
      · exact absurd (List.mem_map.mpr ⟨l, hl, e1⟩) hm.2
theorem ours_len : N.ours.length ≤ N.m := by
  have h1 : N.ours.length ≤ N.all.length := List.length_filter_le _ _
  have h2 : N.all.length = N.m := by simp [Net.all]
  omega
theorem tight_len (ok : N.Ok) : (tight N).length ≤ 20 := by
  have h1 := ok.g15
  have h2 := ok.m6
  unfold tight
  rw [List.length_append, tg_len, List.length_map, Pl.length_irange]
  omega
theorem fixed_eq (ok : N.Ok) :
    (∃ ns, RingOk (tight N) ns ∧ F_fixed_answer [N.d] st = .ok (.tup [.str "ring", .tup (ns.map nmD)]) st) ∨
    (∃ T : Tmd, tv T 0 = 0 ∧ (∀ x ∈ N.ours, 0 ≤ tv T x) ∧ (∀ r ∈ tight N, tv T r.2.2.1 - r.2.2.2 ≤ tv T r.2.1) ∧ F_fixed_answer [N.d] st = .ok (.tup [.str "times", il (N.ours.map (tv T))]) st) := by
  obtain ⟨f1', f2', f3', f4'⟩ := tight_fact ok
  have hm := ok.m6
  have ho := ours_len (N := N)
  have hn : N.ours.Nodup := (ours_asc (N := N)).imp fun h e => by omega
  have run : ∀ d, F_soonest_in [.lst (N.ours.map .int), .lst ((tight N).map rwD)] st = .ok d st → F_fixed_answer [N.d] st = .ok d st := fun d h => by
    have e : F_fixed_in [N.d] st = .ok d st := by
      show endS (m_fixed_in [some N.d] st) = _
      simp only [m_fixed_in, ap_ret, ap_mF, ap_args1, ap_args0, mVar, List.getElem?_cons_zero, Res.ok_bind, ours_in_eq ok, tight_eq ok, h, Res.ok_toS, endS_rt]
    show endS (m_fixed_answer [some N.d] st) = _
    simp only [m_fixed_answer, ap_seq, ap_drop, ap_mF, ap_args1, ap_args0, mVar, List.getElem?_cons_zero, Res.ok_bind, need_net ok, Res.ok_toS, RS.nx_seq, q_fixed_answer_2, ap_ret, e, endS_rt]
  rcases soonest_eq (st := st) (ms := N.ours) (rs := tight N) (Dm := 300) (by omega) hn (zero_ours ok) f1' f2' (by decide) (by have := tight_len ok; omega) f3' f4' with ⟨ns, h1, h2⟩ | ⟨T, h1, h2, h3, h4⟩
  · exact .inl ⟨ns, h1, run _ h2⟩
  · exact .inr ⟨T, h1, h2, h3, run _ h4⟩
/-! names, rings judged -/
def gt (rs : List Rw) (nm : Nm) : Option T3 := (rs.find? fun r => decide (r.1 = nm)).map (·.2)
def encT (rs : List Rw) : List (List Key × D) := rs.map fun r => ([.inr r.1.1, .inl r.1.2], gp3 r.2)
theorem key_nm {a b : Nm} : ([.inr a.1, .inl a.2] : List Key) = [.inr b.1, .inl b.2] ↔ a = b := by
  obtain ⟨a1, a2⟩ := a
  obtain ⟨b1, b2⟩ := b
  simp
theorem gt_cons (r : Rw) (rs : List Rw) (nm : Nm) : gt (r :: rs) nm = if r.1 = nm then some r.2 else gt rs nm := by
  unfold gt
  rw [List.find?_cons]
  by_cases h : r.1 = nm <;> simp [h]
theorem gt_app (rs ss : List Rw) (nm : Nm) : gt (rs ++ ss) nm = (gt rs nm).or (gt ss nm) := by
  induction rs with
  | nil => simp [gt]
  | cons r rs ih =>
    rw [List.cons_append, gt_cons, gt_cons, ih]
    by_cases h : r.1 = nm <;> simp [h]
theorem gt_some {rs : List Rw} {nm : Nm} : (gt rs nm).isSome = true ↔ nm ∈ rs.map (·.1) := by
  induction rs with
  | nil => simp [gt]
  | cons r rs ih =>
    rw [gt_cons, List.map_cons, List.mem_cons]
    by_cases h : r.1 = nm
    · simp [h]
    · simp only [h, if_false, ih]
      constructor
      · exact .inr
      · rintro (e | e)
        · exact absurd e.symm h
        · exact e
theorem gt_mem {rs : List Rw} (hd : (rs.map (·.1)).Nodup) {r : Rw} (hr : r ∈ rs) : gt rs r.1 = some r.2 := by
  induction rs with
  | nil => cases hr
  | cons q rs ih =>
    rw [List.map_cons, List.nodup_cons] at hd
    rw [gt_cons]
    rcases List.mem_cons.mp hr with rfl | hr
    · simp
    · have : q.1 ≠ r.1 := fun e => hd.1 (List.mem_map.mpr ⟨r, hr, e.symm⟩)
      rw [if_neg this]
      exact ih hd.2 hr
theorem valD_encT (rs : List Rw) (nm : Nm) : valD (encT rs) [.inr nm.1, .inl nm.2] = (gt rs nm).map gp3 := by
  induction rs with
  | nil => rfl
  | cons r rs ih =>
    unfold valD encT at ih ⊢
    rw [List.map_cons, List.find?_cons, gt_cons]
    by_cases h : r.1 = nm
    · have : decide (([.inr r.1.1, .inl r.1.2] : List Key) = [.inr nm.1, .inl nm.2]) = true := decide_eq_true (key_nm.mpr h)
      rw [this, if_pos h]; rfl
    · have : decide (([.inr r.1.1, .inl r.1.2] : List Key) = [.inr nm.1, .inl nm.2]) = false := decide_eq_false fun e => h (key_nm.mp e)
      rw [this, if_neg h]
      exact ih
theorem dtR {ρ : VI.Env} {m0 m1 m2' m3 x4 x5 x6 x7 : Option D} : ∀ (ss hs : List Rw), ((hs ++ ss).map (·.1)).Nodup → (hs ++ ss).length ≤ 1000 →
    dtL st.length (ss.map rwD) (VI.stepK (gTp 2 (gsCons (gNm 4) (gsCons (gNm 5) (gsNil)))) mYes (mVar 4) (mVar 5) [4, 5] [m0, m1, m2', m3, x4, x5, x6, x7]) (st ++ [.dT (encT hs)]) = .ok () (st ++ [.dT (encT (hs ++ ss))])
  | [], hs, _, _ => by simp [dtL]
  | r :: ss, hs, hd, hl => by
    have e1 : ∀ st' : Mem, VI.stepK (gTp 2 (gsCons (gNm 4) (gsCons (gNm 5) (gsNil)))) mYes (mVar 4) (mVar 5) [4, 5] [m0, m1, m2', m3, x4, x5, x6, x7] (rwD r) st' = .ok (some (nmD r.1, gp3 r.2)) st' := fun st' => by
      simp only [VI.stepK, wipeE, rwD, gTp_tup, List.length_cons, List.length_nil, if_true, gsCons_c, gsNil_n, ap_gNm, ap_yes, List.set_cons_succ, List.set_cons_zero, Res.noX_ok, Res.ok_bind, mVar, List.getElem?_cons_succ, List.getElem?_cons_zero]
    have hn : gt hs r.1 = none := by
      cases e : gt hs r.1 with
      | none => rfl
      | some v =>
        have h1 : r.1 ∈ hs.map (·.1) := gt_some.mp (by rw [e]; rfl)
        rw [List.map_append, List.nodup_append] at hd
        exact absurd rfl (hd.2.2 _ h1 r.1 (List.mem_map.mpr ⟨r, List.mem_cons_self, rfl⟩))
    have pd : putD (encT hs) [.inr r.1.1, .inl r.1.2] (gp3 r.2) = encT (hs ++ [r]) := by
      unfold putD
      have : ((encT hs).any fun kv => decide (kv.1 = [.inr r.1.1, .inl r.1.2])) = false := by
        rw [List.any_eq_false]
        intro kv hkv
        obtain ⟨q, hq, rfl⟩ := List.mem_map.mp hkv
        simp only [decide_eq_true_eq]
        intro e
        have := key_nm.mp e
        have h2 : (gt hs r.1).isSome = true := gt_some.mpr (List.mem_map.mpr ⟨q, hq, this⟩)
        rw [hn] at h2; cases h2
      rw [this]
      simp [encT]
    have e2 : pushT st.length (some (nmD r.1, gp3 r.2)) (st ++ [.dT (encT hs)]) = .ok () (st ++ [.dT (encT (hs ++ [r]))]) := by
      have at1 : (st ++ [Cell.dT (encT hs)])[st.length]? = some (.dT (encT hs)) := by simp
      have hz : (encT hs).length < LINE := by
        have : (encT hs).length = hs.length := by simp [encT]
        simp only [List.length_append, List.length_cons] at hl
        show _ < 16777216
        omega
      simp only [pushT, at1, nmD, keysD, keyD, hz, if_true, pd]
      simp
    simp only [List.map_cons, dtL, e1, Res.ok_bind, e2]
    rw [dtR (ρ := ρ) ss (hs ++ [r]) (by simpa using hd) (by simpa using hl)]
    simp
theorem typ_str (s : Str) (st : Mem) : isiD ["str"] (.str s) st = .ok (.bl true) st := by simp [isiD, typeD]; decide
theorem in_encT {n : Nat} {rs : List Rw} (h : st[n]? = some (.dT (encT rs))) (nm : Nm) : inD (nmD nm) (.loc n) st = .ok (.bl (gt rs nm).isSome) st := by
  unfold inD memD
  simp only [nmD, seqD, h, getD', keysD, keyD, Option.map_some, valD_encT, Option.isSome_map]
theorem notin_encT {n : Nat} {rs : List Rw} (h : st[n]? = some (.dT (encT rs))) (nm : Nm) : notinD (nmD nm) (.loc n) st = .ok (.bl (!(gt rs nm).isSome)) st := by
  unfold notinD memD
  simp only [nmD, seqD, h, getD', keysD, keyD, Option.map_some, valD_encT, Option.isSome_map]
theorem ix_encT {n : Nat} {rs : List Rw} (h : st[n]? = some (.dT (encT rs))) {nm : Nm} {v : T3} (e : gt rs nm = some v) : ixD (.loc n) (nmD nm) st = .ok (gp3 v) st := by
  unfold ixD
  simp only [nmD, seqD, h, getD', keysD, keyD, Option.map_some, valD_encT, e]
def nmOk (nm : Nm) : Prop := nm.1.cps.all (· < 1114112) = true ∧ 0 ≤ nm.2
theorem okD_nm {n : Nat} {nm : Nm} (h : nmOk nm) : okD (n + 1) (nmD nm) = true := by
  have h1 : okD n (.str nm.1) = true := by cases n <;> exact h.1
  have h2 : okD n (.int nm.2) = true := by cases n <;> rfl
  show okDL n [.str nm.1, .int nm.2] = true
  simp only [okDL]
  rw [h1, h2]; rfl
theorem name_of_eq {n : Nat} {rs : List Rw} (h : st[n]? = some (.dT (encT rs))) {nm : Nm} (hn : 0 ≤ nm.2) : F_is_name_of [.loc n, nmD nm] st = .ok (.bl (gt rs nm).isSome) st := by
  have e0 : ∀ st, ixD (nmD nm) (.int 0) st = .ok (.str nm.1) st := fun st => ixd0 ..
  have e1 : ∀ st, ixD (nmD nm) (.int 1) st = .ok (.int nm.2) st := fun st => ixd1 ..
  have t0 : ∀ st, isiD ["tuple"] (nmD nm) st = .ok (.bl true) st := fun st => typ_tup st _
  have l0 : ∀ st, lenD (nmD nm) st = .ok (.int 2) st := fun st => lenD_tup
  show endS (m_is_name_of [some (.loc n), some (nmD nm)] st) = _
  simp only [m_is_name_of, ap_seq, ap_if, ap_or, ap_not, ap_asT, ap_asB, ap_m1, ap_m2, ap_c, ap_mF, ap_args1, ap_args0, mVar, List.getElem?_cons_succ, List.getElem?_cons_zero, Res.ok_bind, t0, ap_resT, Bool.not_true, Bool.false_eq_true, if_false, ap_f1, l0, neD_int, beq_self_eq_true, ap_resB, e0, typ_str, e1, count_ok hn, Res.ok_toS, ap_nil, RS.nx_seq, q_is_name_of_3, ap_ret, in_encT h, endS_rt]
end
end G15
set_option maxHeartbeats 4000000
namespace VI
open PySem PySem.Spec PyProof.Rows L2
section
variable {mi : ML} {g : MG} {t : MB} {m : ME} {vs : List Nat} {ρ : Env} {st : Mem}
theorem lc_boolsL {α : Type} {xs : List α} {g0 : α → D} (p : α → Bool) (hi : mi ρ st = .ok (xs.map g0) st) (hs : ∀ x ∈ xs, ∀ st', stepL g t m vs ρ (g0 x) (st ++ [.lst st']) = .ok (some (.bl (p x))) (st ++ [.lst st'])) (hl : xs.length ≤ 16000000) :
    mLC finF mi g t m vs ρ st = .ok (.lst ((xs.map p).map .bl)) st := by
  rw [lc_pureL (F := fun x => some (.bl (p x))) hi hs hl (fun _ _ _ h => by cases h; rfl), filterMap_some, List.map_map]
  rfl
theorem allD_bl (bs : List Bool) : allD (.lst (bs.map .bl)) st = .ok (.bl (bs.all id)) st := by
  unfold allD
  simp only [lstD, boolsD_map]
theorem all_map {α : Type} (p : α → Bool) (xs : List α) : (xs.map p).all id = xs.all p := by
  rw [List.all_map]; rfl
theorem all_boolsL {α : Type} {xs : List α} {g0 : α → D} (p : α → Bool) (hi : mi ρ st = .ok (xs.map g0) st) (hs : ∀ x ∈ xs, ∀ st', stepL g t m vs ρ (g0 x) (st ++ [.lst st']) = .ok (some (.bl (p x))) (st ++ [.lst st'])) (hl : xs.length ≤ 16000000) :
    mF (f1 allD) [mLC finF mi g t m vs] ρ st = .ok (.bl (xs.all p)) st := by
  simp only [ap_mF, ap_args1, ap_args0, lc_boolsL p hi hs hl, Res.ok_bind, ap_f1, allD_bl, all_map]
theorem eqT_nil {xs : List D} (h : okDL 11 xs = true) : eqD (.tup xs) (.tup []) st = .ok (.bl xs.isEmpty) st := by
  have o : okD 12 (.tup xs) = true := h
  unfold eqD
  simp only [topD, o, true_and]
  rw [if_pos (by rfl)]
  cases xs <;> simp [eqvD, eqvL]
theorem add_lst {xs ys : List D} (h : xs.length + ys.length ≤ 16777216) : addD (.lst xs) (.lst ys) st = .ok (.lst (xs ++ ys)) st := by
  have h' : xs.length + ys.length ≤ LINE := h
  unfold addD
  simp only [lstM, lstD, h', if_true]
theorem sumD_int (xs : List Int) : sumD (.lst (xs.map .int)) st = .ok (.int xs.sum) st := by
  unfold sumD
  simp only [lstD, intsD_map]
end
end VI
namespace G15
open PySem PySem.Spec PyProof.Rows L2 VI
def adjB (G : List T3) : Bool := (G.zip (G.drop 1 ++ G.take 1)).all fun p => decide (p.1.2.1 = p.2.1)
def gv (rs : List Rw) (nm : Nm) : T3 := (gt rs nm).getD (0, 0, 0)
def ringB (rs : List Rw) (ns : List Nm) : Bool := !ns.isEmpty && (ns.all fun nm => (gt rs nm).isSome) && (adjB (ns.map (gv rs)) && decide (((ns.map (gv rs)).map fun g => g.2.2).sum < 0))
section
variable {st : Mem}
theorem okDL_nms {n : Nat} {ns : List Nm} (h : ∀ nm ∈ ns, nmOk nm) : okDL (n + 1) (ns.map nmD) = true := okDL_mem fun d hd => by
  obtain ⟨nm, hn, rfl⟩ := List.mem_map.mp hd
  exact okD_nm (h nm hn)
theorem mkdict {rs : List Rw} {v x2 x3 x4 x5 x6 x7 : Option D} (hd : (rs.map (·.1)).Nodup) (hl : rs.length ≤ 900) : mDCT (mIt (mVar 0)) (gTp 2 (gsCons (gNm 4) (gsCons (gNm 5) (gsNil)))) (mYes) (mVar 4) (mVar 5) [4, 5] [some (.lst (rs.map rwD)), v, x2, x3, x4, x5, x6, x7] st = .ok (.loc st.length) (st ++ [.dT (encT rs)]) := by
  have k := dtR (st := st) (m0 := some (.lst (rs.map rwD))) (m1 := v) (m2' := x2) (m3 := x3) (x4 := x4) (x5 := x5) (x6 := x6) (x7 := x7) (ρ := []) rs [] (by simpa using hd) (by simp; omega)
  rw [List.nil_append] at k
  have e0 : encT [] = [] := rfl
  rw [e0] at k
  unfold mDCT
  simp only [ap_it, mVar, List.getElem?_cons_zero, Res.ok_bind, frz_lst]
  rw [k]
  rfl
theorem ring_in_eq {rs : List Rw} {ns : List Nm} (hd : (rs.map (·.1)).Nodup) (hl : rs.length ≤ 900) (hn : ∀ nm ∈ ns, nmOk nm) (hk : ns.length ≤ 900) : F_is_ring_in [.lst (rs.map rwD), .tup (ns.map nmD)] st = .ok (.bl (ringB rs ns)) st := by
  have key : ∃ st', m_is_ring_in [some (.lst (rs.map rwD)), some (.tup (ns.map nmD)), none, none, none, none, none, none] st = .rt (.bl (ringB rs ns)) (st ++ st') := by
    refine ⟨[.dT (encT rs)], ?_⟩
    have at1 : ∀ s : Mem, ((st ++ [Cell.dT (encT rs)]) ++ s)[st.length]? = some (.dT (encT rs)) := fun s => by simp
    have a1 : ∀ x3, mF (f1 allD) [mLC finF (mIt (mVar 1)) (gNm 4) (mYes) (mF F_is_name_of [mVar 2, mVar 4]) [4]] [some (.lst (rs.map rwD)), some (.tup (ns.map nmD)), some (.loc st.length), x3, none, none, none, none] (st ++ [.dT (encT rs)]) = .ok (.bl (ns.all fun nm => (gt rs nm).isSome)) (st ++ [.dT (encT rs)]) := fun x3 => by
      refine all_boolsL (xs := ns) (g0 := nmD) (fun nm => (gt rs nm).isSome) (by simp only [ap_it, mVar, List.getElem?_cons_succ, List.getElem?_cons_zero, Res.ok_bind, frz_tup]) (fun nm hnm acc => ?_) (by omega)
      simp only [stepL, wipeE, ap_gNm, ap_yes, ap_mF, ap_args1, ap_args0, mVar, List.set_cons_succ, List.set_cons_zero, List.getElem?_cons_succ, List.getElem?_cons_zero, Res.ok_bind, name_of_eq (at1 _) (hn nm hnm).2, Res.noX_ok, if_true]
    simp only [m_is_ring_in, ap_seq, ap_set, mkdict hd hl, Res.ok_toS, RS.nx_seq, List.set_cons_succ, List.set_cons_zero, q_is_ring_in_2, ap_if, ap_or, ap_not, ap_asT, ap_asB, ap_m1, ap_m2, mVar, List.getElem?_cons_succ, List.getElem?_cons_zero, Res.ok_bind, isiT, ap_resT, Bool.not_true, Bool.false_eq_true, if_false, ap_tup, ap_args0, eqT_nil (okDL_nms hn), ap_resB, a1]
    unfold ringB
    rw [List.isEmpty_map]
    cases hns : ns.isEmpty with
    | true => simp only [if_true, Res.ok_toS, ap_ret, ap_c, Bool.not_true, Bool.false_and, RS.rt_seq]
    | false =>
      simp only [Bool.false_eq_true, if_false, Bool.not_false, Bool.true_and]
      cases ha : (ns.all fun nm => (gt rs nm).isSome) with
      | false => simp only [Bool.not_false, if_true, Res.ok_bind, Res.ok_toS, ap_ret, ap_c, Bool.false_and, RS.rt_seq]
      | true =>
        have hg : ∀ nm ∈ ns, gt rs nm = some (gv rs nm) := fun nm hnm => by
          have := List.all_eq_true.mp ha nm hnm
          obtain ⟨v, e⟩ := Option.isSome_iff_exists.mp this
          unfold gv; rw [e]; rfl
        have c1 : ∀ x3, mLC finF (mIt (mVar 1)) (gNm 4) (mYes) (m2 ixD (mVar 2) (mVar 4)) [4] [some (.lst (rs.map rwD)), some (.tup (ns.map nmD)), some (.loc st.length), x3, none, none, none, none] (st ++ [.dT (encT rs)]) = .ok (.lst ((ns.map (gv rs)).map gp3)) (st ++ [.dT (encT rs)]) := fun x3 => by
          rw [lc_pureL (xs := ns) (g0 := nmD) (F := fun nm => some (gp3 (gv rs nm))) (by simp only [ap_it, mVar, List.getElem?_cons_succ, List.getElem?_cons_zero, Res.ok_bind, frz_tup]) (fun nm hnm acc => ?_) (by omega) (fun _ _ _ h => by cases h; rfl), filterMap_some, List.map_map]
          · rfl
          · simp only [stepL, wipeE, ap_gNm, ap_yes, ap_m2, mVar, List.set_cons_succ, List.set_cons_zero, List.getElem?_cons_succ, List.getElem?_cons_zero, Res.ok_bind, ix_encT (at1 _) (hg nm hnm), Res.noX_ok, if_true]
        have hlG : (ns.map (gv rs)).length = ns.length := by simp
        generalize ns.map (gv rs) = G at c1 hlG
        have zz : ∀ ρ', mZip [mVar 3, m2 addD (mSlice mkF (mVar 3) (mPart (mC (.int 1))) mNoPart) (mSlice mkF (mVar 3) mNoPart (mPart (mC (.int 1))))] (some (.lst (rs.map rwD)) :: some (.tup (ns.map nmD)) :: some (.loc st.length) :: some (.lst (G.map gp3)) :: ρ') (st ++ [.dT (encT rs)]) = .ok ((G.zip (G.drop 1 ++ G.take 1)).map fun p => .tup [gp3 p.1, gp3 p.2]) (st ++ [.dT (encT rs)]) := fun ρ' => by
          have : ((G.map gp3).drop 1).length + ((G.map gp3).take 1).length ≤ 16777216 := by
            simp only [List.length_drop, List.length_take, List.length_map]; omega
          have e1 : ∀ s, cutD (G.map gp3) none (some 1) = (G.map gp3).take 1 := fun (s : Mem) => cutTo _ 1
          simp only [ap_zip, ap_args1, ap_args0, ap_m2, ap_slice, ap_part, ap_nopart, ap_c, mVar, List.getElem?_cons_succ, List.getElem?_cons_zero, Res.ok_bind, resI_int, slice_lst, cut1, e1 st, mkF, add_lst this, frz_lst]
          rw [← List.map_drop, ← List.map_take, ← List.map_append, zipD_map]
        have a2 : ∀ x4, mF (f1 allD) [mLC finF (mZip [mVar 3, m2 addD (mSlice mkF (mVar 3) (mPart (mC (.int 1))) mNoPart) (mSlice mkF (mVar 3) mNoPart (mPart (mC (.int 1))))]) (gTp 2 (gsCons (gNm 6) (gsCons (gNm 7) (gsNil)))) (mYes) (m2 eqD (m2 ixD (mVar 6) (mC (.int 1))) (m2 ixD (mVar 7) (mC (.int 0)))) [6, 7]] [some (.lst (rs.map rwD)), some (.tup (ns.map nmD)), some (.loc st.length), some (.lst (G.map gp3)), x4, none, none, none] (st ++ [.dT (encT rs)]) = .ok (.bl (adjB G)) (st ++ [.dT (encT rs)]) := fun x4 => by
          refine all_boolsL (fun p : T3 × T3 => decide (p.1.2.1 = p.2.1)) (zz _) (fun p _ acc => ?_) (by rw [List.length_zip]; omega)
          have eqi : ∀ (i j : Int) (s : Mem), eqD (.int i) (.int j) s = .ok (.bl (decide (i = j))) s := fun i j s => by
            simp only [eqD, topD, okD, and_self, if_true, eqvD]
            by_cases h : i = j <;> simp [h]
          simp only [stepL, wipeE, gTp_tup, List.length_cons, List.length_nil, if_true, gsCons_c, gsNil_n, ap_gNm, List.set_cons_succ, List.set_cons_zero, ap_yes, Res.noX_ok, Res.ok_bind, ap_m2, ap_c, mVar, List.getElem?_cons_succ, List.getElem?_cons_zero, gp3, ixd0, ixd1, eqi]
        have c3 : ∀ x4, mLC finF (mIt (mVar 3)) (gNm 5) (mYes) (m2 ixD (mVar 5) (mC (.int 2))) [5] [some (.lst (rs.map rwD)), some (.tup (ns.map nmD)), some (.loc st.length), some (.lst (G.map gp3)), x4, none, none, none] (st ++ [.dT (encT rs)]) = .ok (.lst ((G.map fun g => g.2.2).map .int)) (st ++ [.dT (encT rs)]) := fun x4 => by
          rw [lc_mapL (xs := G) (g0 := gp3) (fun g => .int g.2.2) (by simp only [ap_it, mVar, List.getElem?_cons_succ, List.getElem?_cons_zero, Res.ok_bind, frz_lst]) (fun g _ st' => ?_) (by omega) (fun _ _ => rfl), List.map_map]
          · rfl
          · simp only [stepL, wipeE, ap_gNm, ap_yes, ap_m2, ap_c, mVar, List.set_cons_succ, List.set_cons_zero, List.getElem?_cons_succ, List.getElem?_cons_zero, Res.ok_bind, gp3, ixd2, Res.noX_ok, if_true]
        simp only [Bool.not_true, Bool.false_eq_true, if_false, Res.ok_bind, ap_nil, RS.nx_seq, q_is_ring_in_4, ap_seq, ap_set, c1, Res.ok_toS, List.set_cons_succ, List.set_cons_zero, q_is_ring_in_5, ap_if, ap_not, ap_asT, a2, ap_resT, Bool.true_and]
        cases adjB G with
        | false => simp only [Bool.not_false, if_true, Res.ok_bind, Res.ok_toS, ap_ret, ap_c, Bool.false_and, RS.rt_seq]
        | true => simp only [Bool.not_true, Bool.false_eq_true, if_false, Res.ok_bind, Res.ok_toS, ap_nil, RS.nx_seq, q_is_ring_in_7, ap_ret, ap_m2, ap_mF, ap_args1, ap_args0, c3, ap_f1, sumD_int, ap_c, ltD_int, Bool.true_and]
  obtain ⟨st', run⟩ := key
  show dropR st (endS (m_is_ring_in [some (.lst (rs.map rwD)), some (.tup (ns.map nmD)), none, none, none, none, none, none] st)) = _
  rw [run]
  simp only [endS_rt, dropR, belowD, clean_app, Bool.and_self, if_true, List.take_left]
theorem ring_in_non {rs : List Rw} (hd : (rs.map (·.1)).Nodup) (hl : rs.length ≤ 900) : F_is_ring_in [.lst (rs.map rwD), .non] st = .ok (.bl false) st := by
  have tn : ∀ s, isiD ["tuple"] .non s = .ok (.bl false) s := fun s => by simp [isiD, typeD]; decide
  show dropR st (endS (m_is_ring_in [some (.lst (rs.map rwD)), some .non, none, none, none, none, none, none] st)) = _
  simp only [m_is_ring_in, ap_seq, ap_set, mkdict hd hl, Res.ok_toS, RS.nx_seq, List.set_cons_succ, List.set_cons_zero, q_is_ring_in_2, ap_if, ap_or, ap_not, ap_asT, ap_m1, mVar, List.getElem?_cons_succ, List.getElem?_cons_zero, Res.ok_bind, tn, ap_resT, Bool.not_false, if_true, ap_ret, ap_c, RS.rt_seq, endS_rt, dropR, belowD, clean_app, Bool.and_self, List.take_left]
theorem ring_in_one {rs : List Rw} (hd : (rs.map (·.1)).Nodup) (hl : rs.length ≤ 900) : F_is_ring_in [.lst (rs.map rwD), .tup [.non]] st = .ok (.bl false) st := by
  have tn : ∀ s, isiD ["tuple"] .non s = .ok (.bl false) s := fun s => by simp [isiD, typeD]; decide
  have nn : ∀ s n, F_is_name_of [.loc n, .non] s = .ok (.bl false) s := fun s n => by
    show endS (m_is_name_of [some (.loc n), some .non] s) = _
    simp only [m_is_name_of, ap_seq, ap_if, ap_or, ap_not, ap_asT, ap_m1, mVar, List.getElem?_cons_succ, List.getElem?_cons_zero, Res.ok_bind, tn, ap_resT, Bool.not_false, if_true, Res.ok_toS, ap_ret, ap_c, RS.rt_seq, endS_rt]
  have a1 : mF (f1 allD) [mLC finF (mIt (mVar 1)) (gNm 4) (mYes) (mF F_is_name_of [mVar 2, mVar 4]) [4]] [some (.lst (rs.map rwD)), some (.tup [.non]), some (.loc st.length), none, none, none, none, none] (st ++ [.dT (encT rs)]) = .ok (.bl false) (st ++ [.dT (encT rs)]) := by
    refine all_boolsL (xs := [()]) (g0 := fun _ => D.non) (fun _ => false) (by simp only [ap_it, mVar, List.getElem?_cons_succ, List.getElem?_cons_zero, Res.ok_bind, frz_tup, List.map_cons, List.map_nil]) (fun nm hnm acc => ?_) (by decide)
    simp only [stepL, wipeE, ap_gNm, ap_yes, ap_mF, ap_args1, ap_args0, mVar, List.set_cons_succ, List.set_cons_zero, List.getElem?_cons_succ, List.getElem?_cons_zero, Res.ok_bind, nn, Res.noX_ok, if_true]
  show dropR st (endS (m_is_ring_in [some (.lst (rs.map rwD)), some (.tup [.non]), none, none, none, none, none, none] st)) = _
  simp only [m_is_ring_in, ap_seq, ap_set, mkdict hd hl, Res.ok_toS, RS.nx_seq, List.set_cons_succ, List.set_cons_zero, q_is_ring_in_2, ap_if, ap_or, ap_not, ap_asT, ap_asB, ap_m1, ap_m2, ap_tup, ap_args0, mVar, List.getElem?_cons_succ, List.getElem?_cons_zero, Res.ok_bind, isiT, ap_resT, eqT_nil (xs := [.non]) (by decide), List.isEmpty_cons, ap_resB, a1, Bool.not_true, Bool.not_false, Bool.false_eq_true, if_false, if_true, ap_ret, ap_c, RS.rt_seq, endS_rt, dropR, belowD, clean_app, Bool.and_self, List.take_left]
end
end G15
set_option maxHeartbeats 4000000
namespace VI
open PySem PySem.Spec PyProof.Rows L2
section
variable {st : Mem}
/-- {a: b for a, b in ..} of whole numbers -/
theorem dcP {ρ : VI.Env} {i j : Nat} (hi : i < ρ.length) (hj : j < ρ.length) (hij : i ≠ j) : ∀ (zs h : Tmd), h.length + zs.length ≤ 1000 →
    dcL st.length (zs.map fun z => .tup [.int z.1, .int z.2]) (VI.stepK (gTp 2 (gsCons (gNm i) (gsCons (gNm j) (gsNil)))) mYes (mVar i) (mVar j) [i, j] ρ) (st ++ [.dK (encF D.int h)]) = .ok () (st ++ [.dK (encF D.int (zs.foldl (fun f z => putL f z.1 z.2) h))])
  | [], h, _ => rfl
  | z :: zs, h, hl => by
    simp only [List.length_cons] at hl
    have e1 : ∀ st' : Mem, VI.stepK (gTp 2 (gsCons (gNm i) (gsCons (gNm j) (gsNil)))) mYes (mVar i) (mVar j) [i, j] ρ (.tup [.int z.1, .int z.2]) st' = .ok (some (.int z.1, .int z.2)) st' := fun st' => by
      have v1 : mVar i ((((ρ.set j none).set i none).set i (some (.int z.1))).set j (some (.int z.2))) st' = .ok (.int z.1) st' := by
        unfold mVar
        rw [List.getElem?_set_ne (by omega)]
        simp [hi]
      have v2 : mVar j ((((ρ.set j none).set i none).set i (some (.int z.1))).set j (some (.int z.2))) st' = .ok (.int z.2) st' := by
        unfold mVar
        simp [hj]
      simp only [VI.stepK, wipeE, gTp_tup, List.length_cons, List.length_nil, if_true, gsCons_c, gsNil_n, ap_gNm, ap_yes, Res.noX_ok, Res.ok_bind, v1, v2]
    have e2 : pushK st.length (some (.int z.1, .int z.2)) (st ++ [.dK (encF D.int h)]) = .ok () (st ++ [.dK (encF D.int (putL h z.1 z.2))]) := by
      have at1 : (st ++ [Cell.dK (encF D.int h)])[st.length]? = some (.dK (encF D.int h)) := by simp
      have hz : (encF D.int h).length < LINE := by
        have : (encF D.int h).length = h.length := by simp [encF]
        show _ < 16777216
        omega
      simp only [pushK, at1, keyD, hz, if_true, putD_enc]
      simp
    have hp := put_len h z.1 z.2
    simp only [List.map_cons, dcL, e1, Res.ok_bind, e2]
    rw [dcP hi hj hij zs _ (by omega)]
    rfl
theorem puts_lk {β : Type} : ∀ (zs h : List (Int × β)) (x : Int), (zs.map (·.1)).Nodup → lk (zs.foldl (fun f z => putL f z.1 z.2) h) x = (lk zs x).or (lk h x)
  | [], h, x, _ => by simp [lk_nil]
  | z :: zs, h, x, hd => by
    rw [List.map_cons, List.nodup_cons] at hd
    show lk (zs.foldl (fun f z => putL f z.1 z.2) (putL h z.1 z.2)) x = _
    rw [puts_lk zs _ x hd.2, lk_put, lk_cons]
    by_cases h : z.1 = x
    · have : lk zs x = none := by
        cases e : lk zs x with
        | none => rfl
        | some v =>
          have := lk_some.mp (show (lk zs x).isSome = true by rw [e]; rfl)
          rw [h] at hd
          exact absurd this hd.1
      simp [h, this]
    · simp [h]
end
end VI
namespace G15
open PySem PySem.Spec PyProof.Rows L2 VI
section
variable {st : Mem} {N : Net}
theorem tup_non : isiD ["tuple"] .non st = .ok (.bl false) st := by simp [isiD, typeD]; decide
theorem tup_int (i : Int) : isiD ["tuple"] (.int i) st = .ok (.bl false) st := by simp [isiD, typeD]; decide
theorem word_eq {s w : Str} (ds : List D) : F_is_word [.tup (.str s :: ds), .str w, .int 2] st = .ok (.bl (decide (ds.length = 1) && (s == w))) st := by
  show endS (m_is_word [some (.tup (.str s :: ds)), some (.str w), some (.int 2)] st) = _
  have l0 : ∀ st, lenD (.tup (.str s :: ds)) st = .ok (.int (ds.length + 1 : Nat)) st := fun st => lenD_tup
  have es : ∀ st, eqD (.str s) (.str w) st = .ok (.bl (s == w)) st := fun st => rfl
  simp only [m_is_word, ap_ret, ap_andV, ap_m1, ap_m2, ap_mF, ap_args1, ap_args0, ap_c, mVar, List.getElem?_cons_succ, List.getElem?_cons_zero, Res.ok_bind, isiT, tru_bl, ap_f1, l0, eqD_int]
  by_cases h : ds.length = 1
  · have h' : (((ds.length + 1 : Nat) : Int) == 2) = true := by rw [beq_iff_eq]; omega
    simp only [h', decide_eq_true h, ixd0, typ_str, tru_bl, Res.ok_bind, es, Res.ok_toS, endS_rt, Bool.true_and]
  · have h' : (((ds.length + 1 : Nat) : Int) == 2) = false := by rw [beq_eq_false_iff_ne]; omega
    simp only [h', decide_eq_false h, Res.ok_toS, endS_rt, Bool.false_and]
theorem word_nil {w : Str} : F_is_word [.tup [], .str w, .int 2] st = .ok (.bl false) st := by
  show endS (m_is_word [some (.tup []), some (.str w), some (.int 2)] st) = _
  have l0 : ∀ st, lenD (.tup []) st = .ok (.int 0) st := fun st => lenD_tup
  simp only [m_is_word, ap_ret, ap_andV, ap_m1, ap_m2, ap_mF, ap_args1, ap_args0, ap_c, mVar, List.getElem?_cons_succ, List.getElem?_cons_zero, Res.ok_bind, isiT, tru_bl, ap_f1, l0, eqD_int]
  rfl
theorem word_no {v : D} {w : Str} (h : ∀ st, isiD ["tuple"] v st = .ok (.bl false) st) : F_is_word [v, .str w, .int 2] st = .ok (.bl false) st := by
  show endS (m_is_word [some v, some (.str w), some (.int 2)] st) = _
  simp only [m_is_word, ap_ret, ap_andV, ap_m1, mVar, List.getElem?_cons_zero, Res.ok_bind, h, tru_bl]
  rfl
/-! times -/
def hdz (ts : List Int) : Bool := match ts with
  | t :: _ => t == 0
  | [] => false
theorem times_eq (ok : N.Ok) {ts : List Int} (hn : ∀ t ∈ ts, 0 ≤ t) (hl : ts.length ≤ 1000) : F_are_times_in [N.d, il ts] st = .ok (.bl (decide (ts.length = N.ours.length) && hdz ts)) st := by
  show endS (m_are_times_in [some N.d, some (il ts), none] st) = _
  have l0 : ∀ st, lenD (il ts) st = .ok (.int ts.length) st := fun st => by
    have := lenD_tup (xs := ts.map D.int) (st := st)
    rw [List.length_map] at this
    exact this
  have l1 : ∀ st, lenD (.lst (N.ours.map .int)) st = .ok (.int N.ours.length) st := fun st => by
    have := lenD_lst' (xs := N.ours.map D.int) (st := st)
    rw [List.length_map] at this
    exact this
  have t0 : ∀ st, isiD ["tuple"] (il ts) st = .ok (.bl true) st := fun st => typ_tup st _
  simp only [m_are_times_in, ap_seq, ap_if, ap_or, ap_not, ap_asT, ap_asB, ap_m1, ap_m2, ap_mF, ap_args1, ap_args0, mVar, List.getElem?_cons_succ, List.getElem?_cons_zero, Res.ok_bind, t0, ap_resT, Bool.not_true, Bool.false_eq_true, if_false, ap_f1, l0, ours_in_eq ok, l1, neD_int, ap_resB]
  by_cases h : ts.length = N.ours.length
  · have e : (((ts.length : Nat) : Int) == ((N.ours.length : Nat) : Int)) = true := by simp [h]
    have a1 : mF (f1 allD) [mLC finF (mIt (mVar 1)) (gNm 2) (mYes) (mF F_is_count [mVar 2]) [2]] [some N.d, some (il ts), none] st = .ok (.bl (ts.all fun _ => true)) st := by
      refine all_boolsL (xs := ts) (g0 := D.int) (fun _ => true) (by simp only [ap_it, mVar, List.getElem?_cons_succ, List.getElem?_cons_zero, Res.ok_bind, il, frz_tup]) (fun t ht acc => ?_) (by omega)
      simp only [stepL, wipeE, ap_gNm, ap_yes, ap_mF, ap_args1, ap_args0, mVar, List.set_cons_succ, List.set_cons_zero, List.getElem?_cons_succ, List.getElem?_cons_zero, Res.ok_bind, count_ok (hn t ht), Res.noX_ok, if_true]
    have a2 : (ts.all fun _ => true) = true := by simp
    simp only [e, Bool.not_true, Bool.false_eq_true, if_false, Res.ok_toS, ap_nil, RS.nx_seq, q_are_times_in_3, ap_ret, ap_andV, a1, a2, tru_bl, Res.ok_bind, ap_m2, ap_c, mVar, List.getElem?_cons_succ, List.getElem?_cons_zero, decide_eq_true h, Bool.true_and]
    cases ts with
    | nil =>
      have := zero_ours ok
      have h2 : 0 < N.ours.length := List.length_pos_of_mem this
      simp only [List.length_nil] at h
      omega
    | cons t ts =>
      have e0 : ∀ st, ixD (il (t :: ts)) (.int 0) st = .ok (.int t) st := fun st => ixd0 ..
      simp only [e0, Res.ok_bind, eqD_int, Res.ok_toS, endS_rt, hdz]
  · have e : (((ts.length : Nat) : Int) == ((N.ours.length : Nat) : Int)) = false := by simp; omega
    simp only [e, Bool.not_false, if_true, Res.ok_toS, ap_ret, ap_c, RS.rt_seq, endS_rt, decide_eq_false h, Bool.false_and]
theorem times_non : F_are_times_in [N.d, .non] st = .ok (.bl false) st := by
  show endS (m_are_times_in [some N.d, some .non, none] st) = _
  simp only [m_are_times_in, ap_seq, ap_if, ap_or, ap_not, ap_asT, ap_m1, mVar, List.getElem?_cons_succ, List.getElem?_cons_zero, Res.ok_bind, tup_non, ap_resT, Bool.not_false, if_true, Res.ok_toS, ap_ret, ap_c, RS.rt_seq, endS_rt]
/-- all rows satisfied by times of ours -/
def tz (N : Net) (ts : List Int) (x : Int) : Int := tv (N.ours.zip ts) x
def satB (N : Net) (ts : List Int) : Bool := (tight N).all fun r => decide (tz N ts r.2.2.1 - tz N ts r.2.1 ≤ r.2.2.2)
theorem fixed_times (ok : N.Ok) {ts : List Int} (hn : ∀ t ∈ ts, 0 ≤ t) (hl : ts.length ≤ 1000) : F_is_fixed_in [N.d, .tup [.str "times", il ts]] st = .ok (.bl (decide (ts.length = N.ours.length) && hdz ts && satB N ts)) st := by
  show dropR st (endS (m_is_fixed_in [some N.d, some (.tup [.str "times", il ts]), none, none, none, none, none, none] st)) = _
  have w1 : F_is_word [.tup [.str "times", il ts], .str "ring", .int 2] st = .ok (.bl false) st := by
    rw [word_eq]; rfl
  have w2 : F_is_word [.tup [.str "times", il ts], .str "times", .int 2] st = .ok (.bl true) st := by
    rw [word_eq]; rfl
  simp only [m_is_fixed_in, ap_seq, ap_if, ap_or, ap_not, ap_asT, ap_mF, ap_args1, ap_args0, ap_c, ap_m2, mVar, List.getElem?_cons_succ, List.getElem?_cons_zero, Res.ok_bind, w1, w2, ap_resT, Bool.not_true, Bool.false_eq_true, if_false, Res.ok_toS, ap_nil, RS.nx_seq, q_is_fixed_in_3, ixd1, times_eq ok hn hl]
  cases hb : (decide (ts.length = N.ours.length) && hdz ts) with
  | false => simp only [Bool.not_false, if_true, Res.ok_toS, ap_ret, ap_c, RS.rt_seq, endS_rt, Bool.false_and, dropR, belowD, clean, Bool.and_self, List.take_length]; simp
  | true =>
    rw [Bool.and_eq_true, decide_eq_true_eq] at hb
    have hou := ours_len (N := N)
    have h6 := ok.m6
    have nd : ((N.ours.zip ts).map (·.1)).Nodup := by
      have : (N.ours.zip ts).map (·.1) = N.ours := List.map_fst_zip (by omega)
      rw [this]
      exact (ours_asc (N := N)).imp fun h e => by omega
    generalize hT : (N.ours.zip ts).foldl (fun f z => putL f z.1 z.2) ([] : Tmd) = T
    have hk : ∀ x ∈ N.ours, lk T x = some (tz N ts x) := fun x hx => by
      rw [← hT, puts_lk _ _ _ nd, lk_nil, Option.or_none]
      have : (lk (N.ours.zip ts) x).isSome = true := lk_some.mpr (by
        rw [List.map_fst_zip (by omega)]; exact hx)
      obtain ⟨v, e⟩ := Option.isSome_iff_exists.mp this
      unfold tz tv; rw [e]; rfl
    have c1 : mDC (mZip [mF F_ours_in [mVar 0], m2 ixD (mVar 1) (mC (.int 1))]) (gTp 2 (gsCons (gNm 3) (gsCons (gNm 4) (gsNil)))) (mYes) (mVar 3) (mVar 4) [3, 4] [some N.d, some (.tup [.str "times", il ts]), none, none, none, none, none, none] st = .ok (.loc st.length) (st ++ [.dK (encF D.int T)]) := by
      have k := dcP (st := st) (ρ := [some N.d, some (.tup [.str "times", il ts]), none, none, none, none, none, none]) (i := 3) (j := 4) (by simp) (by simp) (by decide) (N.ours.zip ts) [] (by simp only [List.length_nil, List.length_zip]; omega)
      have e0 : encF D.int ([] : Tmd) = [] := rfl
      rw [hT, e0] at k
      unfold mDC
      simp only [ap_zip, ap_mF, ap_args1, ap_args0, ap_m2, ap_c, mVar, List.getElem?_cons_succ, List.getElem?_cons_zero, Res.ok_bind, ours_in_eq ok, ixd1, il, frz_lst, frz_tup, zipD_map]
      have k' : dcL st.length (((N.ours.zip ts)).map fun p => D.tup [.int p.1, .int p.2]) _ _ = _ := k
      simp only [il] at k'
      rw [k']
      rfl
    have a1 : mF (f1 allD) [mLC finF (mIt (mF F_tight_in [mVar 0])) (gTp 2 (gsCons (gNm 5) (gsCons (gTp 3 (gsCons (gNm 3) (gsCons (gNm 6) (gsCons (gNm 7) (gsNil))))) (gsNil)))) (mYes) (m2 leD (m2 subD (m2 ixD (mVar 2) (mVar 6)) (m2 ixD (mVar 2) (mVar 3))) (mVar 7)) [5, 3, 6, 7]] [some N.d, some (.tup [.str "times", il ts]), some (.loc st.length), none, none, none, none, none] (st ++ [.dK (encF D.int T)]) = .ok (.bl (satB N ts)) (st ++ [.dK (encF D.int T)]) := by
      refine all_boolsL (xs := tight N) (g0 := rwD) (fun r => decide (tz N ts r.2.2.1 - tz N ts r.2.1 ≤ r.2.2.2)) (by simp only [ap_it, ap_mF, ap_args1, ap_args0, mVar, List.getElem?_cons_zero, Res.ok_bind, tight_eq ok, frz_lst]) (fun r hr acc => ?_) (by have := tight_len ok; omega)
      have at1 : ((st ++ [Cell.dK (encF D.int T)]) ++ [Cell.lst acc])[st.length]? = some (.dK (encF D.int T)) := by simp
      have hf := (tight_fact ok).1 r hr
      simp only [stepL, wipeE, rwD, nmD, gp3, gTp_tup, List.length_cons, List.length_nil, if_true, gsCons_c, gsNil_n, ap_gNm, List.set_cons_succ, List.set_cons_zero, ap_yes, Res.noX_ok, Res.ok_bind, ap_m2, mVar, List.getElem?_cons_succ, List.getElem?_cons_zero, ixD_enc at1 (hk _ hf.1), ixD_enc at1 (hk _ hf.2), subD_int, leD_int]
    simp only [Bool.not_true, Bool.false_eq_true, if_false, Res.ok_bind, ap_nil, Res.ok_toS, RS.nx_seq, q_is_fixed_in_5, ap_seq, ap_set, c1, List.set_cons_succ, List.set_cons_zero, q_is_fixed_in_6, ap_ret, a1, endS_rt, dropR, belowD, clean_app, Bool.and_self, if_true, List.take_left, Bool.true_and]
theorem answer_eq (ok : N.Ok) {v : D} : F_is_fixed_answer [N.d, v] st = F_is_fixed_in [N.d, v] st := by
  show endS (m_is_fixed_answer [some N.d, some v] st) = _
  simp only [m_is_fixed_answer, ap_seq, ap_drop, ap_mF, ap_args1, ap_args0, mVar, List.getElem?_cons_zero, Res.ok_bind, need_net ok, Res.ok_toS, RS.nx_seq, q_is_fixed_answer_2, ap_ret, List.getElem?_cons_succ]
  cases F_is_fixed_in [N.d, v] st <;> rfl
/-- no answer at all -/
theorem fixed_no {v : D} (h1 : F_is_word [v, .str "ring", .int 2] st = .ok (.bl false) st) (h2 : F_is_word [v, .str "times", .int 2] st = .ok (.bl false) st) : F_is_fixed_in [N.d, v] st = .ok (.bl false) st := by
  show dropR st (endS (m_is_fixed_in [some N.d, some v, none, none, none, none, none, none] st)) = _
  simp only [m_is_fixed_in, ap_seq, ap_if, ap_or, ap_not, ap_asT, ap_mF, ap_args1, ap_args0, ap_c, mVar, List.getElem?_cons_succ, List.getElem?_cons_zero, Res.ok_bind, h1, h2, ap_resT, Bool.not_false, Bool.false_eq_true, if_false, Res.ok_toS, ap_nil, RS.nx_seq, q_is_fixed_in_3, if_true, ap_ret, RS.rt_seq, endS_rt, dropR, belowD, clean, Bool.and_self, List.take_length]
  simp
theorem fixed_tnon : F_is_fixed_in [N.d, .tup [.str "times", .non]] st = .ok (.bl false) st := by
  have w1 : F_is_word [.tup [.str "times", .non], .str "ring", .int 2] st = .ok (.bl false) st := by
    rw [word_eq]; rfl
  have w2 : F_is_word [.tup [.str "times", .non], .str "times", .int 2] st = .ok (.bl true) st := by
    rw [word_eq]; rfl
  show dropR st (endS (m_is_fixed_in [some N.d, some (.tup [.str "times", .non]), none, none, none, none, none, none] st)) = _
  simp only [m_is_fixed_in, ap_seq, ap_if, ap_or, ap_not, ap_asT, ap_mF, ap_args1, ap_args0, ap_c, ap_m2, mVar, List.getElem?_cons_succ, List.getElem?_cons_zero, Res.ok_bind, w1, w2, ap_resT, Bool.not_true, Bool.not_false, Bool.false_eq_true, if_false, Res.ok_toS, ap_nil, RS.nx_seq, q_is_fixed_in_3, ixd1, times_non, if_true, ap_ret, RS.rt_seq, endS_rt, dropR, belowD, clean, Bool.and_self, List.take_length]
  simp
theorem fixed_ring (ok : N.Ok) {v : D} {b : Bool} (h : F_is_ring_in [.lst ((tight N).map rwD), v] st = .ok (.bl b) st) : F_is_fixed_in [N.d, .tup [.str "ring", v]] st = .ok (.bl b) st := by
  have w1 : F_is_word [.tup [.str "ring", v], .str "ring", .int 2] st = .ok (.bl true) st := by
    rw [word_eq]; rfl
  show dropR st (endS (m_is_fixed_in [some N.d, some (.tup [.str "ring", v]), none, none, none, none, none, none] st)) = _
  simp only [m_is_fixed_in, ap_seq, ap_if, ap_asT, ap_mF, ap_args1, ap_args0, ap_c, ap_m2, mVar, List.getElem?_cons_succ, List.getElem?_cons_zero, Res.ok_bind, w1, ap_resT, if_true, Res.ok_toS, ap_ret, tight_eq ok, ixd1, h, RS.rt_seq, endS_rt, dropR, belowD, clean, Bool.and_self, List.take_length]
  simp
end
end G15
set_option maxHeartbeats 4000000
namespace G15
open PySem PySem.Spec PyProof.Rows L2 VI
section
variable {st : Mem} {N : Net}
/-! names -/
theorem tg_names : ∀ (gs : List Gp) (k : Nat), (tg N k gs).map (·.1) = (Pl.irange k (k + gs.length)).map fun i => (("told" : Str), i)
  | [], k => by simp [tg, Pl.irange]
  | z :: gs, k => by
    simp only [tg, List.map_cons, tg_names gs (k + 1), List.length_cons]
    rw [Pl.irange_cons (k := (k : Nat)) (by omega), List.map_cons]
    congr 2
    congr 1 <;> omega
theorem tight_names (N : Net) : (tight N).map (·.1) = ((Pl.irange 0 N.gs.length).map fun i => (("told" : Str), i)) ++ (Pl.irange 1 N.m).map fun i => (("begin" : Str), i) := by
  unfold tight
  rw [List.map_append, tg_names, List.map_map]
  congr 2
  simp
theorem irange_nd (lo hi : Int) : (Pl.irange lo hi).Nodup := (Pl.irange_lt lo hi).imp fun h e => by omega
theorem tight_nd : ((tight N).map (·.1)).Nodup := by
  rw [tight_names, List.nodup_append]
  refine ⟨Pl.nodup_map_inj (irange_nd _ _) (fun a _ b _ e => (Prod.mk.inj e).2), Pl.nodup_map_inj (irange_nd _ _) (fun a _ b _ e => (Prod.mk.inj e).2), ?_⟩
  intro a ha b hb e
  obtain ⟨i, _, rfl⟩ := List.mem_map.mp ha
  obtain ⟨j, _, rfl⟩ := List.mem_map.mp hb
  exact told_ne (Prod.mk.inj e).1
theorem told_ok : ("told" : Str).cps.all (· < 1114112) = true := by decide +kernel
theorem begin_ok : ("begin" : Str).cps.all (· < 1114112) = true := by decide +kernel
theorem tight_nmOk {nm : Nm} (h : nm ∈ (tight N).map (·.1)) : nmOk nm := by
  rw [tight_names] at h
  rcases List.mem_append.mp h with h | h
  · obtain ⟨i, hi, rfl⟩ := List.mem_map.mp h
    exact ⟨told_ok, (Pl.mem_irange.mp hi).1⟩
  · obtain ⟨i, hi, rfl⟩ := List.mem_map.mp h
    exact ⟨begin_ok, by have := (Pl.mem_irange.mp hi).1; show 0 ≤ i; omega⟩
/-! rings -/
theorem chain_mem {rs : List Rw} : ∀ {G : List Rw} {a b : Int}, Chain rs G a b → ∀ r ∈ G, r ∈ rs
  | [], _, _, _, r, h => by cases h
  | g :: G, a, b, h, r, hr => by
    rcases List.mem_cons.mp hr with rfl | hr
    · exact h.1
    · exact chain_mem h.2.2 r hr
theorem chain_adj {rs : List Rw} : ∀ {G : List Rw} {a b : Int} (c : T3), Chain rs G a b → c.1 = b → (((G.map (·.2)).zip ((G.map (·.2)).drop 1 ++ [c])).all fun p => decide (p.1.2.1 = p.2.1)) = true
  | [], _, _, _, _, _ => rfl
  | [g], a, b, c, h, hc => by
    have h2 : g.2.2.1 = b := h.2.2
    simp [h2, hc]
  | g :: g' :: G, a, b, c, h, hc => by
    have ih := chain_adj (G := g' :: G) c h.2.2 hc
    have h2 : g'.2.1 = g.2.2.1 := h.2.2.2.1
    simp only [List.map_cons, List.drop_succ_cons, List.drop_zero, List.cons_append, List.zip_cons_cons, List.all_cons, h2, decide_true, Bool.true_and] at ih ⊢
    exact ih
theorem ringB_of {rs : List Rw} (hd : (rs.map (·.1)).Nodup) {ns : List Nm} (h : RingOk rs ns) : ringB rs ns = true := by
  obtain ⟨G, x, g1, g2, g3, rfl, _⟩ := h
  have hm := chain_mem g2
  have e : (G.map (·.1)).map (gv rs) = G.map (·.2) := by
    rw [List.map_map]
    refine List.map_congr_left fun r hr => ?_
    simp only [Function.comp_apply, gv, gt_mem hd (hm r hr), Option.getD_some]
  have e1 : (G.map (·.1)).isEmpty = false := by cases G with | nil => exact absurd rfl g1 | cons a b => rfl
  have e2 : ((G.map (·.1)).all fun nm => (gt rs nm).isSome) = true := by
    rw [List.all_eq_true]
    intro nm hnm
    obtain ⟨r, hr, rfl⟩ := List.mem_map.mp hnm
    rw [gt_mem hd (hm r hr)]; rfl
  have e3 : adjB (G.map (·.2)) = true := by
    cases G with
    | nil => exact absurd rfl g1
    | cons a b =>
      have := chain_adj (rs := rs) (G := a :: b) (a := x) (b := x) a.2 g2 g2.2.1
      unfold adjB
      rw [List.map_cons, List.take_succ_cons, List.take_zero]
      rw [List.map_cons] at this
      exact this
  have e4 : ((G.map (·.2)).map fun g => g.2.2).sum < 0 := by
    rw [List.map_map]; exact g3
  unfold ringB
  rw [e, e1, e2, e3, decide_eq_true e4]; rfl
theorem chain_le {rs : List Rw} {f : Int → Int} (hs : ∀ r ∈ rs, f r.2.2.1 - f r.2.1 ≤ r.2.2.2) : ∀ {G : List Rw} {a b : Int}, Chain rs G a b → f b - f a ≤ dsum G
  | [], a, b, h => by
    have : a = b := h
    subst this
    simp [dsum]
  | g :: G, a, b, h => by
    have h1 := hs g h.1
    have h2 := chain_le hs h.2.2
    have h3 := h.2.1
    rw [h3] at h1
    simp only [dsum, List.map_cons, List.sum_cons] at h2 ⊢
    omega
theorem ring_unsat {ns : List Nm} (h : RingOk (tight N) ns) (ts : List Int) : satB N ts = false := by
  cases e : satB N ts with
  | false => rfl
  | true =>
    obtain ⟨G, x, g1, g2, g3, _⟩ := h
    have hs : ∀ r ∈ tight N, tz N ts r.2.2.1 - tz N ts r.2.1 ≤ r.2.2.2 := fun r hr => by
      have := List.all_eq_true.mp e r hr
      simpa using this
    have := chain_le hs g2
    omega
/-! times that keep all for all lengths -/
def allB (N : Net) (ts : List Int) : Bool := N.worlds.all fun w => N.good (N.play ts w)
theorem tz_zip {ts : List Int} (hl : ts.length = N.ours.length) : ∀ z ∈ N.ours.zip ts, tz N ts z.1 = z.2 := by
  have nd : N.ours.Nodup := (ours_asc (N := N)).imp fun h e => by omega
  have key : ∀ (xs ts : List Int), xs.Nodup → ∀ z ∈ xs.zip ts, tv (xs.zip ts) z.1 = z.2 := by
    intro xs
    induction xs with
    | nil => intro ts _ z hz; simp at hz
    | cons x xs ih =>
      intro ts hd z hz
      cases ts with
      | nil => simp at hz
      | cons t ts =>
        rw [List.nodup_cons] at hd
        rw [List.zip_cons_cons] at hz ⊢
        unfold tv
        rw [lk_cons]
        rcases List.mem_cons.mp hz with rfl | hz
        · simp
        · have : x ≠ z.1 := fun e => hd.1 (e ▸ (List.of_mem_zip hz).1)
          rw [if_neg this]
          exact ih ts hd.2 z hz
  exact key _ _ nd
theorem av_ours (ok : N.Ok) {ts w : List Int} (hl : ts.length = N.ours.length) {x : Int} (hx : x ∈ N.ours) : av (N.play ts w) x = tz N ts x := by
  obtain ⟨y, hy⟩ := mem_zip_l (ys := ts) (Nat.le_of_eq hl.symm) x hx
  rw [(play_spec ok ts w).ours _ hy, tz_zip hl _ hy]
theorem tz_nn {ts : List Int} (hn : ∀ t ∈ ts, 0 ≤ t) (x : Int) : 0 ≤ tz N ts x := by
  unfold tz tv
  cases e : lk (N.ours.zip ts) x with
  | none => exact Int.le_refl _
  | some v =>
    unfold lk at e
    rw [Option.map_eq_some_iff] at e
    obtain ⟨z, hz, rfl⟩ := e
    exact hn _ (List.of_mem_zip (List.mem_of_find?_eq_some hz)).2
theorem tz_0 (ok : N.Ok) {ts : List Int} (hh : hdz ts = true) : tz N ts 0 = 0 := by
  cases ts with
  | nil => cases hh
  | cons t ts =>
    have e : t = 0 := by simpa [hdz] using hh
    unfold tz
    rw [ours_cons ok, List.zip_cons_cons]
    unfold tv
    rw [lk_cons, if_pos rfl, e]; rfl
/-- lengths chosen -/
def wch (N : Net) (f : Lk → Bool) : List Int := N.ls.map fun l => if f l = true then l.2.2.2 else l.2.2.1
theorem wch_mem (ok : N.Ok) (f : Lk → Bool) : wch N f ∈ N.worlds := by
  rw [mem_worlds]
  unfold wch
  refine (inB_map (fun l : Lk => if f l = true then l.2.2.2 else l.2.2.1) (fun l => (l.2.2.1, l.2.2.2 + 1))).mpr fun l hl => ?_
  have := ok.lk l hl
  simp only
  split <;> omega
theorem worlds_zip {w : List Int} (hw : w ∈ N.worlds) : ∀ l ∈ N.ls, ∃ v, (l, v) ∈ N.ls.zip w ∧ l.2.2.1 ≤ v ∧ v ≤ l.2.2.2 := by
  have key : ∀ (ls : List Lk) (w : List Int), Pl.inB w (ls.map fun l => (l.2.2.1, l.2.2.2 + 1)) → ∀ l ∈ ls, ∃ v, (l, v) ∈ ls.zip w ∧ l.2.2.1 ≤ v ∧ v ≤ l.2.2.2 := by
    intro ls
    induction ls with
    | nil => intro w _ l hl; cases hl
    | cons l ls ih =>
      intro w hB q hq
      cases w with
      | nil => simp only [List.map_cons, Pl.inB] at hB
      | cons x w =>
        simp only [List.map_cons, Pl.inB] at hB
        rw [List.zip_cons_cons]
        rcases List.mem_cons.mp hq with rfl | hq
        · exact ⟨x, List.mem_cons_self, hB.1.1, by have := hB.1.2; omega⟩
        · obtain ⟨v, a, b⟩ := ih w hB.2 q hq
          exact ⟨v, List.mem_cons_of_mem _ a, b⟩
  exact key _ _ (mem_worlds.mp hw)
theorem av_any (ok : N.Ok) {ts w : List Int} (hl : ts.length = N.ours.length) (hw : w ∈ N.worlds) {x : Int} (hx : x ∈ N.all) :
    tz N ts (base N x).1 + (base N x).2.1 ≤ av (N.play ts w) x ∧ av (N.play ts w) x ≤ tz N ts (base N x).1 + (base N x).2.2 := by
  rcases base_cases ok hx with ⟨h, e⟩ | ⟨l, hlm, rfl, e⟩ <;> rw [e]
  · rw [av_ours ok hl h]; simp
  · obtain ⟨v, hv, h1, h2⟩ := worlds_zip hw l hlm
    have h3 := (play_spec ok ts w).ends _ hv
    simp only at h3
    have h4 := ok.lk l hlm
    have h5 : l.1 ∈ N.ours := mem_ours.mpr ⟨⟨h4.1, h4.2.1⟩, ok.src l hlm⟩
    rw [h3, av_ours ok hl h5]
    simp only
    omega
theorem av_ch (ok : N.Ok) {ts : List Int} (hl : ts.length = N.ours.length) (y : Int) {x : Int} (hx : x ∈ N.all) :
    av (N.play ts (wch N fun l => decide (l.2.1 = y))) x = tz N ts (base N x).1 + (if x = y then (base N x).2.2 else (base N x).2.1) := by
  rcases base_cases ok hx with ⟨h, e⟩ | ⟨l, hlm, rfl, e⟩ <;> rw [e]
  · rw [av_ours ok hl h]; simp
  · have h4 := ok.lk l hlm
    have h5 : l.1 ∈ N.ours := mem_ours.mpr ⟨⟨h4.1, h4.2.1⟩, ok.src l hlm⟩
    obtain ⟨v, hv⟩ := mem_zip_l (xs := N.ls) (ys := wch N fun l => decide (l.2.1 = y)) (by simp [wch]) l hlm
    have h3 := (play_spec ok ts (wch N fun l => decide (l.2.1 = y))).ends _ hv
    have h6 := zip_map_self (fun l : Lk => if decide (l.2.1 = y) = true then l.2.2.2 else l.2.2.1) hv
    simp only at h3 h6
    rw [h3, av_ours ok hl h5, h6]
    simp only [decide_eq_true_eq]
theorem tg_mem : ∀ {gs : List Gp} {z : Gp} (k : Nat), z ∈ gs → ∃ j, tgR N j z ∈ tg N k gs
  | [], _, _, h => by cases h
  | g :: gs, z, k, h => by
    rcases List.mem_cons.mp h with rfl | h
    · exact ⟨k, List.mem_cons_self⟩
    · obtain ⟨j, hj⟩ := tg_mem (gs := gs) (k + 1) h
      exact ⟨j, List.mem_cons_of_mem _ hj⟩
theorem sat_all (ok : N.Ok) {ts : List Int} (hl : ts.length = N.ours.length) (hn : ∀ t ∈ ts, 0 ≤ t) (hh : hdz ts = true) : satB N ts = allB N ts := by
  rw [Bool.eq_iff_iff]
  unfold satB allB
  rw [List.all_eq_true, List.all_eq_true]
  constructor
  · intro h w hw
    unfold Net.good
    rw [Bool.and_eq_true, List.all_eq_true, List.all_eq_true]
    refine ⟨fun l hlm => ?_, fun z hz => ?_⟩
    · have h4 := ok.lk l hlm
      obtain ⟨v, hv, h1, h2⟩ := worlds_zip hw l hlm
      have h3 := (play_spec ok ts w).ends _ hv
      simp only at h3
      unfold letB
      rw [decide_eq_true_eq]
      omega
    · obtain ⟨j, hj⟩ := tg_mem (N := N) 0 hz
      have h1 : tz N ts (base N z.2.1).1 - tz N ts (base N z.1).1 ≤ z.2.2 + (base N z.1).2.1 - (base N z.2.1).2.2 := of_decide_eq_true (h _ (List.mem_append_left _ hj))
      have h2 := av_any ok hl hw (gs_all ok hz).1
      have h3 := av_any ok hl hw (gs_all ok hz).2
      unfold keptB
      rw [decide_eq_true_eq]
      omega
  · intro h r hr
    rw [decide_eq_true_eq]
    rcases mem_tight hr with ⟨j, z, hz, rfl⟩ | ⟨y, h1, h2, rfl⟩
    · have h1 := h _ (wch_mem ok fun l => decide (l.2.1 = z.2.1))
      unfold Net.good at h1
      rw [Bool.and_eq_true, List.all_eq_true, List.all_eq_true] at h1
      have h2 := h1.2 z hz
      unfold keptB at h2
      rw [decide_eq_true_eq, av_ch ok hl z.2.1 (gs_all ok hz).1, av_ch ok hl z.2.1 (gs_all ok hz).2, if_pos rfl, if_neg (ok.gp z hz).2.2.2.2.1] at h2
      show tz N ts (base N z.2.1).1 - tz N ts (base N z.1).1 ≤ z.2.2 + (base N z.1).2.1 - (base N z.2.1).2.2
      omega
    · have b1 := base_fact ok (mem_all.mpr ⟨by omega, h2⟩ : y ∈ N.all)
      have t1 := tz_nn (N := N) hn (base N y).1
      show tz N ts 0 - tz N ts (base N y).1 ≤ (base N y).2.1
      rw [tz_0 ok hh]
      omega
end
end G15
set_option maxHeartbeats 4000000
namespace VI
open PySem PySem.Spec PyProof.Rows L2
section
theorem rng2_eq {ρ : VI.Env} {st : Mem} {m n : ME} {i j : Int} (h1 : m ρ st = .ok (.int i) st) (h2 : n ρ st = .ok (.int j) st) (b1 : -1000000 ≤ i ∧ i ≤ 1000000) (b2 : -1000000 ≤ j ∧ j ≤ 1000000) : mRng2 m n ρ st = .ok ((Pl.irange i j).map .int) st := by
  unfold mRng2
  simp only [h1, h2, Res.ok_bind, small_big b1.1 b1.2, small_big b2.1 b2.2, and_self, if_true, rangeL_eq]
theorem rng1_eq {ρ : VI.Env} {st : Mem} {m : ME} {j : Int} (h1 : m ρ st = .ok (.int j) st) (b2 : -1000000 ≤ j ∧ j ≤ 1000000) : mRng1 m ρ st = .ok ((Pl.irange 0 j).map .int) st := by
  unfold mRng1
  simp only [h1, Res.ok_bind, small_big b2.1 b2.2, if_true]
  have := rangeL_eq 0 j
  rw [show j - 0 = j by omega] at this
  rw [this]
/-- a row made longer by each of a range -/
theorem grow_lc {ρ : VI.Env} {st : Mem} {t k : Nat} {MI : ML} {row : List Int} {lo hi : Int} (htk : k ≠ t) (hk : k < ρ.length) (ht : ρ[t]? = some (some (il row))) (hMI : MI ρ st = .ok ((Pl.irange lo hi).map .int) st) (hl : row.length ≤ 1000) (hl3 : (Pl.irange lo hi).length ≤ 1000) :
    mLC finF MI (gNm k) mYes (m2 addD (mVar t) (mTup [mVar k])) [k] ρ st = .ok (.lst (((Pl.irange lo hi).map fun i => row ++ [i]).map il)) st := by
  rw [lc_mapL (xs := Pl.irange lo hi) (g0 := D.int) (fun i => il (row ++ [i])) hMI (fun i _ st' => ?_) (by omega) (fun _ _ => by simp), List.map_map]
  · rfl
  · have g1 : ((ρ.set k none).set k (some (D.int i)))[t]? = some (some (il row)) := by
      rw [List.getElem?_set_ne htk, List.getElem?_set_ne htk, ht]
    have g2 : ((ρ.set k none).set k (some (D.int i)))[k]? = some (some (D.int i)) := by simp [hk]
    have hz : row.length + 1 ≤ LINE := by show _ ≤ 16777216; omega
    simp only [stepL, wipeE, ap_gNm, ap_yes, Res.noX_ok, Res.ok_bind, if_true, ap_m2, ap_tup, ap_args1, ap_args0, ap_var _ _ _ _ g1, ap_var _ _ _ _ g2]
    simp [addD, hz]
end
end VI
namespace G15
open PySem PySem.Spec PyProof.Rows L2 VI
section
variable {st : Mem} {N : Net}
theorem law_ours_eq (ok : N.Ok) : F__law_ours [N.d] st = .ok (.lst (N.ours.map .int)) st := by
  have e1 : mLC finF (mIt (m2 ixD (mVar 0) (mC (.int 1)))) (gNm 2) (mYes) (m2 ixD (mVar 2) (mC (.int 1))) [2] [some N.d, none, none, none] st = .ok (.lst (N.ends.map .int)) st := by
    rw [lc_mapL (xs := N.ls) (g0 := lkD) (fun l => .int l.2.1) (by simp [mVar, N.ix1]) (fun l hl st' => ?_) (by have := ok.l3; omega) (fun _ _ => rfl)]
    · simp [Net.ends]
    · simp [stepL, wipeE, mVar, lkD, ixd1]
  have e : mLC finF (mRng1 (m2 ixD (mVar 0) (mC (.int 0)))) (gNm 3) (asB (m2 notinD (mVar 3) (mVar 1))) (mVar 3) [3] [some N.d, some (.lst (N.ends.map .int)), none, none] st = .ok (.lst (N.ours.map .int)) st := by
    have hl : N.all.length ≤ 16000000 := by
      have q : N.all.length = N.m := by simp [Net.all]
      rw [q]; exact Nat.le_trans ok.m6 (by decide)
    have hi : mRng1 (m2 ixD (mVar 0) (mC (.int 0))) [some N.d, some (.lst (N.ends.map .int)), none, none] st = .ok (N.all.map .int) st := by
      simp only [ap_rng1, ap_m2, mVar, List.getElem?_cons_zero, Res.ok_bind, ap_c, N.ix0, big_m ok, if_true, Int.toNat_natCast]
      rw [rangeL_0]; rfl
    rw [lc_filtL (xs := N.all) (g0 := D.int) D.int (fun i => !decide (i ∈ N.ends)) hi (fun i hi st' => ?_) hl (fun _ _ => rfl)]
    · unfold Net.ours; rfl
    · by_cases h : i ∈ N.ends <;> simp [stepL, wipeE, mVar, notinD_lst, h]
  show endS (m__law_ours [some N.d, none, none, none] st) = _
  simp only [m__law_ours, ap_seq, ap_set, e1, Res.ok_toS, RS.nx_seq, List.set_cons_succ, List.set_cons_zero, q__law_ours_2, ap_ret, e, endS_rt]
/-! all lengths -/
def rng (l : Lk) : Int × Int := (l.2.2.1, l.2.2.2 + 1)
theorem loopI {a0 a2 a3 : Option D} {lo hi : Int} (b1 : 0 ≤ lo ∧ lo ≤ hi ∧ hi ≤ 99) {n : Nat} (hn2 : n ≤ 900) {x1 : Option D} : ∀ (F G : List (List Int)), (∀ r ∈ F, r.length = n) → G.length + (Pl.ext1 F (lo, hi + 1)).length ≤ 16000000 → ∀ x7 x8 : Option D, ∃ y7 : Option D,
    forL (F.map il) (stepF (gNm 7) b__law_lengths_4) [a0, x1, a2, a3, some (.int lo), some (.int hi), some (.lst (G.map il)), x7, x8] st = .nx [a0, x1, a2, a3, some (.int lo), some (.int hi), some (.lst ((G ++ Pl.ext1 F (lo, hi + 1)).map il)), y7, x8] st
  | [], G, _, _, x7, x8 => ⟨x7, by simp [Pl.ext1, forL]⟩
  | r :: F, G, h, hl, x7, x8 => by
    have e : Pl.ext1 (r :: F) (lo, hi + 1) = ((Pl.irange lo (hi + 1)).map fun i => r ++ [i]) ++ Pl.ext1 F (lo, hi + 1) := by simp [Pl.ext1]
    rw [e, List.length_append, List.length_map] at hl
    have hi2 : (Pl.irange lo (hi + 1)).length ≤ 1000 := by rw [Pl.length_irange]; omega
    obtain ⟨y7, ih⟩ := loopI b1 hn2 F (G ++ (Pl.irange lo (hi + 1)).map fun i => r ++ [i]) (fun q hq => h q (List.mem_cons_of_mem _ hq)) (by rw [List.length_append, List.length_map]; omega) (some (il r)) x8
    refine ⟨y7, ?_⟩
    rw [e, ← List.append_assoc, ← ih]
    have hr := h r List.mem_cons_self
    have lc := grow_lc (ρ := [a0, x1, a2, a3, some (.int lo), some (.int hi), some (.lst (G.map il)), some (il r), x8]) (st := st) (t := 7) (k := 8) (MI := mRng2 (mVar 4) (m2 addD (mVar 5) (mC (.int 1)))) (row := r) (lo := lo) (hi := hi + 1) (by decide) (by simp) rfl
      (rng2_eq (by simp only [mVar, List.getElem?_cons_succ, List.getElem?_cons_zero]) (by simp only [ap_m2, ap_c, mVar, List.getElem?_cons_succ, List.getElem?_cons_zero, Res.ok_bind, addD_int]) (by rw [Pl.length_irange] at hi2; omega) (by rw [Pl.length_irange] at hi2; omega)) (by omega) hi2
    have ad : addD (.lst (G.map il)) (.lst (((Pl.irange lo (hi + 1)).map fun i => r ++ [i]).map il)) st = .ok (.lst ((G ++ (Pl.irange lo (hi + 1)).map fun i => r ++ [i]).map il)) st := by
      rw [add_lst (by simp only [List.length_map]; omega), List.map_append]
    simp only [List.map_cons, forL, stepF, ap_gNm, List.set_cons_succ, List.set_cons_zero, b__law_lengths_4, ap_set, ap_m2, mVar, List.getElem?_cons_succ, List.getElem?_cons_zero, Res.ok_bind, lc, ad, Res.ok_toS]
theorem loopW : ∀ (ls : List Lk) (F : List (List Int)) (n : Nat), (∀ l ∈ ls, 1 ≤ l.2.2.1 ∧ l.2.2.1 ≤ l.2.2.2 ∧ l.2.2.2 ≤ 99) → F.length * 99 ^ ls.length ≤ 16000000 → (∀ r ∈ F, r.length = n) → n + ls.length ≤ 900 → ∀ x2 x3 x4 x5 x6 x7 x8 : Option D, ∃ ρ',
    forL (ls.map lkD) (stepF (gTp 4 (gsCons (gNm 2) (gsCons (gNm 3) (gsCons (gNm 4) (gsCons (gNm 5) (gsNil)))))) b__law_lengths_2) [some N.d, some (.lst (F.map il)), x2, x3, x4, x5, x6, x7, x8] st =
      .nx ρ' st ∧ ρ'[1]? = some (some (.lst ((Pl.box F (ls.map rng)).map il)))
  | [], F, n, _, _, _, _, x2, x3, x4, x5, x6, x7, x8 => ⟨_, rfl, rfl⟩
  | l :: ls, F, n, h, hb, hn, hn2, x2, x3, x4, x5, x6, x7, x8 => by
    obtain ⟨a, c, lo, hi⟩ := l
    have hl := h _ List.mem_cons_self
    simp only at hl
    have hr : (hi + 1 - lo).toNat ≤ 99 := by omega
    have e1 : (Pl.ext1 F (lo, hi + 1)).length * 99 ^ ls.length ≤ 16000000 := by
      refine Nat.le_trans ?_ hb
      rw [Pl.ext1_len, List.length_cons, Nat.pow_succ, Nat.mul_comm (99 ^ ls.length) 99, ← Nat.mul_assoc]
      exact Nat.mul_le_mul_right _ (Nat.mul_le_mul_left _ hr)
    have e2 : (Pl.ext1 F (lo, hi + 1)).length ≤ 16000000 := Nat.le_trans (Nat.le_mul_of_pos_right _ (Nat.pow_pos (by decide))) e1
    have hlen : ∀ r ∈ Pl.ext1 F (lo, hi + 1), r.length = n + 1 := fun r hr => by
      simp only [Pl.ext1, List.mem_flatMap, List.mem_map] at hr
      obtain ⟨q, hq, i, _, rfl⟩ := hr
      simp [hn q hq]
    simp only [List.length_cons] at hn2
    obtain ⟨y7, lp⟩ := loopI (st := st) (a0 := some N.d) (a2 := some (.int a)) (a3 := some (.int c)) (lo := lo) (hi := hi) ⟨by omega, hl.2.1, hl.2.2⟩ (n := n) (by omega) (x1 := some (.lst (F.map il))) F [] hn (by simpa using e2) x7 x8
    obtain ⟨ρ', ih, ih2⟩ := loopW ls (Pl.ext1 F (lo, hi + 1)) (n + 1) (fun l hl => h l (List.mem_cons_of_mem _ hl)) e1 hlen (by omega) (some (.int a)) (some (.int c)) (some (.int lo)) (some (.int hi)) (some (.lst ((Pl.ext1 F (lo, hi + 1)).map il))) y7 x8
    refine ⟨ρ', ?_, ih2⟩
    rw [← ih]
    simp only [List.map_nil, List.nil_append] at lp
    simp only [List.map_cons, lkD, forL, stepF, gTp_tup, List.length_cons, List.length_nil, if_true, gsCons_c, gsNil_n, ap_gNm, List.set_cons_succ, List.set_cons_zero, b__law_lengths_2, ap_seq, ap_set, ap_lst, ap_args0, Res.ok_bind, ap_mkF, Res.ok_toS, RS.nx_seq, q__law_lengths_4, sFor, ap_it, mVar, List.getElem?_cons_succ, List.getElem?_cons_zero, frz_lst]
    rw [lp]
    simp only [RS.nx_seq, q__law_lengths_6, ap_set, mVar, List.getElem?_cons_succ, List.getElem?_cons_zero, Res.ok_toS, List.set_cons_succ, List.set_cons_zero]
theorem lengths_eq (ok : N.Ok) : F__law_lengths [N.d] st = .ok (.lst (N.worlds.map il)) st := by
  have h3 := ok.l3
  obtain ⟨ρ', h1, h2⟩ := loopW (N := N) (st := st) N.ls [[]] 0 (fun l hl => by have := ok.lk l hl; omega) (by
    have : (99 : Nat) ^ N.ls.length ≤ 99 ^ 3 := Nat.pow_le_pow_right (by decide) h3
    simp only [List.length_cons, List.length_nil]
    omega) (by simp) (by omega) none none none none none none none
  show endS (m__law_lengths [some N.d, none, none, none, none, none, none, none, none] st) = _
  have e0 : ([.tup []] : List D) = [[]].map il := rfl
  simp only [m__law_lengths, ap_seq, ap_set, ap_lst, ap_args1, ap_args0, ap_tup, Res.ok_bind, ap_mkF, Res.ok_toS, RS.nx_seq, List.set_cons_succ, List.set_cons_zero, q__law_lengths_2, sFor, ap_it, ap_m2, ap_c, mVar, List.getElem?_cons_zero, N.ix1, frz_tup]
  rw [e0, h1]
  simp only [RS.nx_seq, q__law_lengths_7, ap_ret, mVar, h2, Res.ok_toS]
  rfl
/-! all times to a number -/
theorem loopJ {a0 a2 a3 : Option D} {hi : Int} (b1 : 0 ≤ hi ∧ hi ≤ 99) {n : Nat} (hn2 : n ≤ 900) : ∀ (F G : List (List Int)), (∀ r ∈ F, r.length = n) → G.length + (Pl.ext1 F (0, hi + 1)).length ≤ 16000000 → ∀ x5 x6 : Option D, ∃ y5 : Option D,
    forL (F.map il) (stepF (gNm 5) b__law_times_4) [a0, some (.int hi), a2, a3, some (.lst (G.map il)), x5, x6] st = .nx [a0, some (.int hi), a2, a3, some (.lst ((G ++ Pl.ext1 F (0, hi + 1)).map il)), y5, x6] st
  | [], G, _, _, x5, x6 => ⟨x5, by simp [Pl.ext1, forL]⟩
  | r :: F, G, h, hl, x5, x6 => by
    have e : Pl.ext1 (r :: F) (0, hi + 1) = ((Pl.irange 0 (hi + 1)).map fun i => r ++ [i]) ++ Pl.ext1 F (0, hi + 1) := by simp [Pl.ext1]
    rw [e, List.length_append, List.length_map] at hl
    have hi2 : (Pl.irange 0 (hi + 1)).length ≤ 1000 := by rw [Pl.length_irange]; omega
    obtain ⟨y5, ih⟩ := loopJ b1 hn2 F (G ++ (Pl.irange 0 (hi + 1)).map fun i => r ++ [i]) (fun q hq => h q (List.mem_cons_of_mem _ hq)) (by rw [List.length_append, List.length_map]; omega) (some (il r)) x6
    refine ⟨y5, ?_⟩
    rw [e, ← List.append_assoc, ← ih]
    have hr := h r List.mem_cons_self
    have lc := grow_lc (ρ := [a0, some (.int hi), a2, a3, some (.lst (G.map il)), some (il r), x6]) (st := st) (t := 5) (k := 6) (MI := mRng1 (m2 addD (mVar 1) (mC (.int 1)))) (row := r) (lo := 0) (hi := hi + 1) (by decide) (by simp) rfl
      (rng1_eq (by simp only [ap_m2, ap_c, mVar, List.getElem?_cons_succ, List.getElem?_cons_zero, Res.ok_bind, addD_int]) (by omega)) (by omega) hi2
    have ad : addD (.lst (G.map il)) (.lst (((Pl.irange 0 (hi + 1)).map fun i => r ++ [i]).map il)) st = .ok (.lst ((G ++ (Pl.irange 0 (hi + 1)).map fun i => r ++ [i]).map il)) st := by
      rw [add_lst (by simp only [List.length_map]; omega), List.map_append]
    simp only [List.map_cons, forL, stepF, ap_gNm, List.set_cons_succ, List.set_cons_zero, b__law_times_4, ap_set, ap_m2, mVar, List.getElem?_cons_succ, List.getElem?_cons_zero, Res.ok_bind, lc, ad, Res.ok_toS]
theorem loopT2 {a0 : Option D} {hi : Int} (b1 : 0 ≤ hi ∧ hi ≤ 9) : ∀ (ks : List Int) (F : List (List Int)) (n : Nat), F.length * 10 ^ ks.length ≤ 16000000 → (∀ r ∈ F, r.length = n) → n + ks.length ≤ 900 → ∀ x3 x4 x5 x6 : Option D, ∃ ρ',
    forL (ks.map .int) (stepF (gNm 3) b__law_times_2) [a0, some (.int hi), some (.lst (F.map il)), x3, x4, x5, x6] st =
      .nx ρ' st ∧ ρ'[2]? = some (some (.lst ((Pl.box F (ks.map fun _ => ((0 : Int), hi + 1))).map il)))
  | [], F, n, _, _, _, x3, x4, x5, x6 => ⟨_, rfl, rfl⟩
  | k :: ks, F, n, hb, hn, hn2, x3, x4, x5, x6 => by
    have hr : (hi + 1 - 0).toNat ≤ 10 := by omega
    have e1 : (Pl.ext1 F (0, hi + 1)).length * 10 ^ ks.length ≤ 16000000 := by
      refine Nat.le_trans ?_ hb
      rw [Pl.ext1_len, List.length_cons, Nat.pow_succ, Nat.mul_comm (10 ^ ks.length) 10, ← Nat.mul_assoc]
      exact Nat.mul_le_mul_right _ (Nat.mul_le_mul_left _ hr)
    have e2 : (Pl.ext1 F (0, hi + 1)).length ≤ 16000000 := Nat.le_trans (Nat.le_mul_of_pos_right _ (Nat.pow_pos (by decide))) e1
    have hlen : ∀ r ∈ Pl.ext1 F (0, hi + 1), r.length = n + 1 := fun r hr => by
      simp only [Pl.ext1, List.mem_flatMap, List.mem_map] at hr
      obtain ⟨q, hq, i, _, rfl⟩ := hr
      simp [hn q hq]
    simp only [List.length_cons] at hn2
    obtain ⟨y5, lp⟩ := loopJ (st := st) (a0 := a0) (a2 := some (.lst (F.map il))) (a3 := some (.int k)) (hi := hi) ⟨b1.1, by omega⟩ (n := n) (by omega) F [] hn (by simpa using e2) x5 x6
    obtain ⟨ρ', ih, ih2⟩ := loopT2 (a0 := a0) b1 ks (Pl.ext1 F (0, hi + 1)) (n + 1) e1 hlen (by omega) (some (.int k)) (some (.lst ((Pl.ext1 F (0, hi + 1)).map il))) y5 x6
    refine ⟨ρ', ?_, ih2⟩
    rw [← ih]
    simp only [List.map_nil, List.nil_append] at lp
    simp only [List.map_cons, forL, stepF, ap_gNm, List.set_cons_succ, List.set_cons_zero, b__law_times_2, ap_seq, ap_set, ap_lst, ap_args0, Res.ok_bind, ap_mkF, Res.ok_toS, RS.nx_seq, q__law_times_4, sFor, ap_it, mVar, List.getElem?_cons_succ, List.getElem?_cons_zero, frz_lst]
    rw [lp]
    simp only [RS.nx_seq, q__law_times_6, ap_set, mVar, List.getElem?_cons_succ, List.getElem?_cons_zero, Res.ok_toS, List.set_cons_succ, List.set_cons_zero]
theorem times_all {k : Nat} {hi : Int} (h1 : 1 ≤ k) (h4 : k ≤ 6) (b1 : 0 ≤ hi ∧ hi ≤ 9) : F__law_times [.int k, .int hi] st = .ok (.lst ((Pl.box [[0]] ((Pl.irange 0 ((k : Int) - 1)).map fun _ => ((0 : Int), hi + 1))).map il)) st := by
  have hl : (Pl.irange 0 ((k : Int) - 1)).length ≤ 5 := by rw [Pl.length_irange]; omega
  obtain ⟨ρ', e1, e2⟩ := loopT2 (st := st) (a0 := some (.int (k : Nat))) b1 (Pl.irange 0 ((k : Int) - 1)) [[0]] 1 (by
    have : (10 : Nat) ^ (Pl.irange 0 ((k : Int) - 1)).length ≤ 10 ^ 5 := Nat.pow_le_pow_right (by decide) hl
    simp only [List.length_cons, List.length_nil]
    omega) (by simp) (by omega) none none none none
  show endS (m__law_times [some (.int k), some (.int hi), none, none, none, none, none] st) = _
  have e0 : ([.tup [.int 0]] : List D) = [[0]].map il := rfl
  have r1 : ∀ ρ', mRng1 (m2 subD (mVar 0) (mC (.int 1))) (some (.int (k : Nat)) :: ρ') st = .ok ((Pl.irange 0 ((k : Int) - 1)).map .int) st := fun ρ' => rng1_eq (by simp only [ap_m2, ap_c, mVar, List.getElem?_cons_zero, Res.ok_bind, subD_int]) (by omega)
  simp only [m__law_times, ap_seq, ap_set, ap_lst, ap_args1, ap_args0, ap_tup, ap_c, Res.ok_bind, ap_mkF, Res.ok_toS, RS.nx_seq, List.set_cons_succ, List.set_cons_zero, q__law_times_2, sFor, r1]
  rw [e0, e1]
  simp only [RS.nx_seq, q__law_times_7, ap_ret, mVar, e2, Res.ok_toS]
  rfl
end
end G15
set_option maxHeartbeats 4000000
namespace VI
open PySem PySem.Spec PyProof.Rows L2
section
variable {st : Mem}
theorem okDL_ones {α : Type} (n : Nat) (xs : List α) : okDL n (xs.map fun _ => D.int 1) = true := okDL_mem fun d hd => by
  obtain ⟨x, _, rfl⟩ := List.mem_map.mp hd
  cases n <;> rfl
theorem filt_empty {α : Type} (p : α → Bool) (xs : List α) : ((xs.filter p).map fun _ => D.int 1).isEmpty = xs.all fun x => !p x := by
  rw [List.isEmpty_map]
  induction xs with
  | nil => rfl
  | cons x xs ih =>
    rw [List.filter_cons, List.all_cons]
    cases h : p x
    · simp only [Bool.false_eq_true, if_false, ih, Bool.not_false, Bool.true_and]
    · simp
theorem ix_il {p : List Int} {x : Int} (h0 : 0 ≤ x) (h1 : x < p.length) : ixD (il p) (.int x) st = .ok (.int (av p x)) st := by
  have h : x.toNat < p.length := by omega
  refine ix_tup h0 ?_
  simp [av, List.getD_eq_getElem?_getD, h]
theorem at_app {c : Cell} : (st ++ [c])[st.length]? = some c := by simp
theorem set_app {p : List Int} {x v : Int} (h0 : 0 ≤ x) (h1 : x < p.length) : setD (.loc st.length) (.int x) (.int v) (st ++ [.lst (p.map .int)]) = some (st ++ [.lst ((p.set x.toNat v).map .int)]) := by
  have hi : x.toNat < (p.map D.int).length := by simp; omega
  have e : ixN (p.map D.int).length x = some x.toNat := by rw [← ixN_nat hi]; congr 1; omega
  unfold setD
  simp only [at_app, e, Option.map_some]
  simp [List.map_set]
theorem ix_app {p : List Int} {x : Int} (h0 : 0 ≤ x) (h1 : x < p.length) : ixD (.loc st.length) (.int x) (st ++ [.lst (p.map .int)]) = .ok (.int (av p x)) (st ++ [.lst (p.map .int)]) := by
  have h : x.toNat < p.length := by omega
  refine ix_loc at_app h0 ?_
  simp [av, List.getD_eq_getElem?_getD, h]
def pr2 (z : Int × Int) : D := .tup [.int z.1, .int z.2]
def prL (z : Lk × Int) : D := .tup [lkD z.1, .int z.2]
end
end VI
namespace G15
open PySem PySem.Spec PyProof.Rows L2 VI
section
variable {st : Mem} {N : Net}
theorem loopP {a0 a1 a2 : Option D} : ∀ (zs : List (Int × Int)) (p : List Int), (∀ z ∈ zs, 0 ≤ z.1 ∧ z.1 < p.length) → ∀ x4 x5 x6 x7 : Option D, ∃ y4 y5 : Option D,
    forL (zs.map pr2) (stepF (gTp 2 (gsCons (gNm 4) (gsCons (gNm 5) (gsNil)))) b__law_play_2) [a0, a1, a2, some (.loc st.length), x4, x5, x6, x7] (st ++ [.lst (p.map .int)]) =
      .nx [a0, a1, a2, some (.loc st.length), y4, y5, x6, x7] (st ++ [.lst ((putAll p zs).map .int)])
  | [], p, _, x4, x5, x6, x7 => ⟨x4, x5, rfl⟩
  | z :: zs, p, h, x4, x5, x6, x7 => by
    have hz := h z List.mem_cons_self
    obtain ⟨y4, y5, ih⟩ := loopP (a0 := a0) (a1 := a1) (a2 := a2) zs (p.set z.1.toNat z.2) (fun w hw => by rw [List.length_set]; exact h w (List.mem_cons_of_mem _ hw)) (some (.int z.1)) (some (.int z.2)) x6 x7
    refine ⟨y4, y5, ?_⟩
    show _ = RS.nx _ (st ++ [.lst ((putAll (p.set z.1.toNat z.2) zs).map .int)])
    rw [← ih]
    simp only [List.map_cons, pr2, forL, stepF, gTp_tup, List.length_cons, List.length_nil, if_true, gsCons_c, gsNil_n, ap_gNm, List.set_cons_succ, List.set_cons_zero, b__law_play_2, ap_asg, mVar, List.getElem?_cons_succ, List.getElem?_cons_zero, Res.ok_toS, ap_gSub, set_app hz.1 hz.2]
theorem loopQ {a0 a1 a2 : Option D} : ∀ (zs : List (Lk × Int)) (p : List Int), (∀ z ∈ zs, 0 ≤ z.1.1 ∧ z.1.1 < p.length ∧ 0 < z.1.2.1 ∧ z.1.2.1 < p.length) → ∀ x4 x5 x6 x7 : Option D, ∃ ρ',
    forL (zs.map prL) (stepF (gTp 2 (gsCons (gNm 6) (gsCons (gNm 7) (gsNil)))) b__law_play_4) [a0, a1, a2, some (.loc st.length), x4, x5, x6, x7] (st ++ [.lst (p.map .int)]) =
      .nx ρ' (st ++ [.lst ((putLk p zs).map .int)]) ∧ ρ'[3]? = some (some (.loc st.length))
  | [], p, _, x4, x5, x6, x7 => ⟨_, rfl, rfl⟩
  | z :: zs, p, h, x4, x5, x6, x7 => by
    obtain ⟨⟨a, c, lo, hi⟩, w⟩ := z
    have hz := h _ List.mem_cons_self
    simp only at hz
    obtain ⟨ρ', ih, ih2⟩ := loopQ (a0 := a0) (a1 := a1) (a2 := a2) zs (p.set c.toNat (av p a + w)) (fun w hw => by rw [List.length_set]; exact h w (List.mem_cons_of_mem _ hw)) x4 x5 (some (lkD (a, c, lo, hi))) (some (.int w))
    refine ⟨ρ', ?_, ih2⟩
    show _ = RS.nx _ (st ++ [.lst ((putLk (p.set c.toNat (av p a + w)) zs).map .int)])
    rw [← ih]
    simp only [List.map_cons, prL, forL, stepF, gTp_tup, List.length_cons, List.length_nil, if_true, gsCons_c, gsNil_n, ap_gNm, List.set_cons_succ, List.set_cons_zero, b__law_play_4, ap_asg, ap_m2, ap_c, mVar, List.getElem?_cons_succ, List.getElem?_cons_zero, Res.ok_bind, Res.ok_toS, ap_gSub,
      lkD, ixd0, ixd1, ix_app hz.1 hz.2.1, addD_int, set_app (Int.le_of_lt hz.2.2.1) hz.2.2.2]
theorem play_eq (ok : N.Ok) (ts len : List Int) : F__law_play [N.d, il ts, il len] st = .ok (il (N.play ts len)) st := by
  have hm := ok.m6
  have hm2 := ok.m2
  have e0 : mulD mkN (.lst [.int 0]) (.int N.m) st = .ok (.loc st.length) (st ++ [.lst ((List.replicate N.m (0 : Int)).map .int)]) := by
    unfold mulD repD
    simp only [lstM]
    rw [if_pos ⟨by omega, by omega, by simp⟩]
    have : (List.replicate (N.m : Int).toNat [D.int 0]).flatten = (List.replicate N.m (0 : Int)).map .int := by
      rw [Int.toNat_natCast]
      generalize N.m = m
      induction m with
      | zero => rfl
      | succ m ih => rw [List.replicate_succ, List.flatten_cons, ih, List.replicate_succ]; rfl
    rw [this]; rfl
  have fr1 : ∀ (ρ' : List (Option D)) st, mZip [mF F__law_ours [mVar 0], mVar 1] (some N.d :: some (il ts) :: ρ') st = .ok ((N.ours.zip ts).map pr2) st := fun ρ' st => by
    simp only [ap_zip, ap_args1, ap_args0, ap_mF, mVar, List.getElem?_cons_zero, List.getElem?_cons_succ, Res.ok_bind, law_ours_eq ok, frz_lst, frz_tup, zipD_map]
    rfl
  have fr2 : ∀ (y : Option D) (ρ' : List (Option D)) st, mZip [m2 ixD (mVar 0) (mC (.int 1)), mVar 2] (some N.d :: y :: some (il len) :: ρ') st = .ok ((N.ls.zip len).map prL) st := fun y ρ' st => by
    simp only [ap_zip, ap_args1, ap_args0, ap_m2, ap_c, mVar, List.getElem?_cons_zero, List.getElem?_cons_succ, Res.ok_bind, N.ix1, frz_lst, frz_tup, zipD_map]
    rfl
  obtain ⟨y4, y5, h1⟩ := loopP (st := st) (a0 := some N.d) (a1 := some (il ts)) (a2 := some (il len)) (N.ours.zip ts) (List.replicate N.m 0) (fun z hz => by
    have := (mem_ours.mp (List.of_mem_zip hz).1).1
    simpa using this) none none none none
  obtain ⟨ρ', h2, h3⟩ := loopQ (st := st) (a0 := some N.d) (a1 := some (il ts)) (a2 := some (il len)) (N.ls.zip len) (putAll (List.replicate N.m 0) (N.ours.zip ts)) (fun z hz => by
    have := ok.lk _ (List.of_mem_zip hz).1
    rw [length_putAll, List.length_replicate]; omega) y4 y5 none none
  have h4 : m__law_play [some N.d, some (il ts), some (il len), none, none, none, none, none] st = .rt (il (N.play ts len)) (st ++ [.lst ((N.play ts len).map .int)]) := by
    simp only [m__law_play, ap_seq, ap_set, ap_m2, ap_lst, ap_args1, ap_args0, ap_c, Res.ok_bind, ap_mkF, mVar, List.getElem?_cons_zero, N.ix0, e0, Res.ok_toS, RS.nx_seq, List.set_cons_succ, List.set_cons_zero, q__law_play_2, sFor, fr1, h1, q__law_play_4, fr2, h2, q__law_play_6, ap_ret, ap_mF, h3, ap_f1]
    unfold tupleD
    simp only [lstD, at_app, Res.ok_toS]
    rfl
  show dropR st (endS (m__law_play [some N.d, some (il ts), some (il len), none, none, none, none, none] st)) = _
  rw [h4]
  simp [dropR]
/-! kept -/
theorem loopK {p : List Int} : ∀ (ls : List Lk), (∀ l ∈ ls, 0 ≤ l.1 ∧ l.1 < p.length ∧ 0 < l.2.1 ∧ l.2.1 < p.length) → ∀ (x2 x3 x4 x5 x6 x7 x8 : Option D),
    (ls.all (letB p) = false ∧ forL (ls.map lkD) (stepF (gTp 4 (gsCons (gNm 2) (gsCons (gNm 3) (gsCons (gNm 4) (gsCons (gNm 5) (gsNil)))))) b__law_kept_1) [some N.d, some (il p), x2, x3, x4, x5, x6, x7, x8] st = .rt (.bl false) st) ∨
    (ls.all (letB p) = true ∧ ∃ y2 y3 y4 y5 : Option D, forL (ls.map lkD) (stepF (gTp 4 (gsCons (gNm 2) (gsCons (gNm 3) (gsCons (gNm 4) (gsCons (gNm 5) (gsNil)))))) b__law_kept_1) [some N.d, some (il p), x2, x3, x4, x5, x6, x7, x8] st = .nx [some N.d, some (il p), y2, y3, y4, y5, x6, x7, x8] st)
  | [], _, x2, x3, x4, x5, x6, x7, x8 => .inr ⟨rfl, x2, x3, x4, x5, rfl⟩
  | l :: ls, h, x2, x3, x4, x5, x6, x7, x8 => by
    obtain ⟨a, c, lo, hi⟩ := l
    have hl := h _ List.mem_cons_self
    simp only at hl
    have i1 : ∀ st, ixD (il p) (.int c) st = .ok (.int (av p c)) st := fun st => ix_il (by omega) hl.2.2.2
    have i2 : ∀ st, ixD (il p) (.int a) st = .ok (.int (av p a)) st := fun st => ix_il hl.1 hl.2.1
    by_cases hb : lo ≤ av p c - av p a ∧ av p c - av p a ≤ hi
    · have hb' : letB p (a, c, lo, hi) = true := by unfold letB; rw [decide_eq_true_eq]; exact hb
      have st1 : forL (((a, c, lo, hi) :: ls).map lkD) (stepF (gTp 4 (gsCons (gNm 2) (gsCons (gNm 3) (gsCons (gNm 4) (gsCons (gNm 5) (gsNil)))))) b__law_kept_1) [some N.d, some (il p), x2, x3, x4, x5, x6, x7, x8] st = forL (ls.map lkD) (stepF (gTp 4 (gsCons (gNm 2) (gsCons (gNm 3) (gsCons (gNm 4) (gsCons (gNm 5) (gsNil)))))) b__law_kept_1) [some N.d, some (il p), some (.int a), some (.int c), some (.int lo), some (.int hi), x6, x7, x8] st := by
        simp [forL, stepF, lkD, b__law_kept_1, mVar, i1, i2, subD_int, leD_int, hb.1, hb.2]
      rw [st1, List.all_cons, hb', Bool.true_and]
      exact loopK ls (fun l hl => h l (List.mem_cons_of_mem _ hl)) _ _ _ _ _ _ _
    · have hb' : letB p (a, c, lo, hi) = false := by unfold letB; rw [decide_eq_false_iff_not]; exact hb
      refine .inl ⟨by rw [List.all_cons, hb', Bool.false_and], ?_⟩
      by_cases h1 : lo ≤ av p c - av p a
      · have h2 : ¬ av p c - av p a ≤ hi := fun z => hb ⟨h1, z⟩
        simp [forL, stepF, lkD, b__law_kept_1, mVar, i1, i2, subD_int, leD_int, h1, h2]
      · simp [forL, stepF, lkD, b__law_kept_1, mVar, i1, i2, subD_int, leD_int, h1]
theorem kept_eq (ok : N.Ok) {p : List Int} (hp : p.length = N.m) : F__law_kept [N.d, il p] st = .ok (.bl (N.good p)) st := by
  show endS (m__law_kept [some N.d, some (il p), none, none, none, none, none, none, none] st) = _
  have go : ∀ y2 y3 y4 y5, q__law_kept_4 [some N.d, some (il p), y2, y3, y4, y5, none, none, none] st = .rt (.bl (N.gs.all (keptB p))) st := fun y2 y3 y4 y5 => by
    have c1 : mLC finF (mIt (m2 ixD (mVar 0) (mC (.int 2)))) (gTp 3 (gsCons (gNm 6) (gsCons (gNm 7) (gsCons (gNm 8) (gsNil))))) (asB (m2 gtD (m2 subD (m2 ixD (mVar 1) (mVar 7)) (m2 ixD (mVar 1) (mVar 6))) (mVar 8))) (mC (.int 1)) [6, 7, 8] [some N.d, some (il p), y2, y3, y4, y5, none, none, none] st = .ok (.lst ((N.gs.filter fun g => !keptB p g).map fun _ => .int 1)) st := by
      refine lc_filtL (xs := N.gs) (g0 := gpD) (fun _ => .int 1) (fun g => !keptB p g) (by simp only [ap_it, ap_m2, ap_c, mVar, List.getElem?_cons_zero, Res.ok_bind, N.ix2, frz_tup]) (fun g hg st' => ?_) (by have := ok.g15; omega) (fun _ _ => rfl)
      have hg' := ok.gp g hg
      have i1 : ∀ st, ixD (il p) (.int g.1) st = .ok (.int (av p g.1)) st := fun st => ix_il hg'.1 (by omega)
      have i2 : ∀ st, ixD (il p) (.int g.2.1) st = .ok (.int (av p g.2.1)) st := fun st => ix_il hg'.2.2.1 (by omega)
      have ek : decide (g.2.2 < av p g.2.1 - av p g.1) = !keptB p g := by
        unfold keptB
        by_cases h : av p g.2.1 - av p g.1 ≤ g.2.2
        · rw [decide_eq_true h, decide_eq_false (by omega)]; rfl
        · rw [decide_eq_false h, decide_eq_true (by omega)]; rfl
      simp only [stepL, wipeE, gpD, gTp_tup, List.length_cons, List.length_nil, if_true, gsCons_c, gsNil_n, ap_gNm, List.set_cons_succ, List.set_cons_zero, ap_asB, ap_m2, mVar, List.getElem?_cons_succ, List.getElem?_cons_zero, Res.ok_bind, i1, i2, subD_int, gtD_int, ap_resB, Res.noX_ok, ek, ap_c]
      split <;> rfl
    simp only [q__law_kept_4, ap_ret, ap_m2, c1, Res.ok_bind, ap_lst, ap_args0, ap_mkF, eqvL_nil_lst (okDL_ones 11 _), Res.ok_toS, filt_empty, Bool.not_not]
  have hi : ∀ ρ' : List (Option D), mIt (m2 ixD (mVar 0) (mC (.int 1))) (some N.d :: ρ') st = .ok (N.ls.map lkD) st := fun ρ' => by
    simp only [ap_it, ap_m2, ap_c, mVar, List.getElem?_cons_zero, Res.ok_bind, N.ix1, frz_tup]
  unfold Net.good
  rcases loopK (st := st) (N := N) (p := p) N.ls (fun l hl => by have := ok.lk l hl; omega) none none none none none none none with ⟨a, b⟩ | ⟨a, y2, y3, y4, y5, b⟩
  · simp only [m__law_kept, ap_seq, sFor, hi, Res.ok_toS, b, RS.rt_seq, endS_rt, a, Bool.false_and]
  · simp only [m__law_kept, ap_seq, sFor, hi, Res.ok_toS, b, RS.nx_seq, go, endS_rt, a, Bool.true_and]
theorem always_eq (ok : N.Ok) (ts : List Int) : F__law_always [N.d, il ts] st = .ok (.bl (allB N ts)) st := by
  have hw : N.worlds.length ≤ 16000000 := by
    have h := Pl.box_le (K := 99) (rs := N.ls.map rng) (F := [[]]) (fun r hr => by
      obtain ⟨l, hl, rfl⟩ := List.mem_map.mp hr
      have := ok.lk l hl
      show (l.2.2.2 + 1 - l.2.2.1).toNat ≤ 99
      omega)
    have h2 : (99 : Nat) ^ (N.ls.map rng).length ≤ 99 ^ 3 := Nat.pow_le_pow_right (by decide) (by have := ok.l3; simpa using this)
    show (Pl.box [[]] (N.ls.map rng)).length ≤ _
    simp only [List.length_cons, List.length_nil] at h
    omega
  have c1 : mLC finF (mIt (mF F__law_lengths [mVar 0])) (gNm 2) (mNot (asT (mF F__law_kept [mVar 0, mF F__law_play [mVar 0, mVar 1, mVar 2]]))) (mC (.int 1)) [2] [some N.d, some (il ts), none] st = .ok (.lst ((N.worlds.filter fun w => !N.good (N.play ts w)).map fun _ => .int 1)) st := by
    refine lc_filtL (xs := N.worlds) (g0 := il) (fun _ => .int 1) (fun w => !N.good (N.play ts w)) (by simp only [ap_it, ap_mF, ap_args1, ap_args0, mVar, List.getElem?_cons_zero, Res.ok_bind, lengths_eq ok, frz_lst]) (fun w _ st' => ?_) hw (fun _ _ => rfl)
    simp only [stepL, wipeE, ap_gNm, List.set_cons_succ, List.set_cons_zero, ap_not, ap_asT, ap_mF, ap_args1, ap_args0, mVar, List.getElem?_cons_succ, List.getElem?_cons_zero, Res.ok_bind, play_eq ok, kept_eq ok (length_play N ts w), ap_resT, Res.noX_ok, ap_c]
    split <;> rfl
  show endS (m__law_always [some N.d, some (il ts), none] st) = _
  simp only [m__law_always, ap_ret, ap_m2, c1, Res.ok_bind, ap_lst, ap_args0, ap_mkF, eqvL_nil_lst (okDL_ones 11 _), Res.ok_toS, filt_empty, Bool.not_not, endS_rt]
  rfl
/-! a ring judged by the law -/
theorem ring_right_eq {n : Nat} {rs : List Rw} {ns : List Nm} (h : st[n]? = some (.dT (encT rs))) (hn : ∀ nm ∈ ns, nmOk nm) (hk : ns.length ≤ 900) : F__law_ring_right [.loc n, .tup (ns.map nmD)] st = .ok (.bl (ringB rs ns)) st := by
  have atA : ∀ acc : List D, (st ++ [Cell.lst acc])[n]? = some (.dT (encT rs)) := fun acc => by
    rw [List.getElem?_append_left (List.getElem?_eq_some_iff.mp h).1]; exact h
  show endS (m__law_ring_right [some (.loc n), some (.tup (ns.map nmD)), none, none, none, none, none] st) = _
  have c1 : mLC finF (mIt (mVar 1)) (gNm 3) (asB (m2 notinD (mVar 3) (mVar 0))) (mC (.int 1)) [3] [some (.loc n), some (.tup (ns.map nmD)), none, none, none, none, none] st = .ok (.lst ((ns.filter fun nm => !(gt rs nm).isSome).map fun _ => .int 1)) st := by
    rw [lc_pureL (xs := ns) (g0 := nmD) (F := fun nm => if (!(gt rs nm).isSome) = true then some (.int 1) else none) (by simp only [ap_it, mVar, List.getElem?_cons_succ, List.getElem?_cons_zero, Res.ok_bind, frz_tup]) (fun nm hnm acc => ?_) (by omega) (fun x _ y hy => ?_), filterMap_if]
    · simp only [stepL, wipeE, ap_gNm, List.set_cons_succ, List.set_cons_zero, ap_asB, ap_m2, mVar, List.getElem?_cons_succ, List.getElem?_cons_zero, Res.ok_bind, notin_encT (atA acc), ap_resB, Res.noX_ok, ap_c]
      cases (gt rs nm).isSome <;> rfl
    · split at hy
      · cases hy; rfl
      · cases hy
  simp only [m__law_ring_right, ap_seq, ap_if, ap_or, ap_asB, ap_m2, mVar, List.getElem?_cons_succ, List.getElem?_cons_zero, Res.ok_bind, ap_tup, ap_args0, eqT_nil (okDL_nms hn), ap_resB, c1, ap_lst, ap_mkF, nevL_nil_lst (okDL_ones 11 _), filt_empty, Bool.not_not]
  unfold ringB
  rw [List.isEmpty_map]
  cases hns : ns.isEmpty with
  | true => simp only [if_true, Res.ok_toS, ap_ret, ap_c, Bool.not_true, Bool.false_and, RS.rt_seq, endS_rt]
  | false =>
    simp only [Bool.false_eq_true, if_false, Bool.not_false, Bool.true_and]
    cases ha : (ns.all fun nm => (gt rs nm).isSome) with
    | false => simp only [Bool.not_false, if_true, Res.ok_bind, Res.ok_toS, ap_ret, ap_c, Bool.false_and, RS.rt_seq, endS_rt]
    | true =>
      have hg : ∀ nm ∈ ns, gt rs nm = some (gv rs nm) := fun nm hnm => by
        have := List.all_eq_true.mp ha nm hnm
        obtain ⟨v, e⟩ := Option.isSome_iff_exists.mp this
        unfold gv; rw [e]; rfl
      have c2 : mLC finF (mIt (mVar 1)) (gNm 3) (mYes) (m2 ixD (mVar 0) (mVar 3)) [3] [some (.loc n), some (.tup (ns.map nmD)), none, none, none, none, none] st = .ok (.lst ((ns.map (gv rs)).map gp3)) st := by
        rw [lc_pureL (xs := ns) (g0 := nmD) (F := fun nm => some (gp3 (gv rs nm))) (by simp only [ap_it, mVar, List.getElem?_cons_succ, List.getElem?_cons_zero, Res.ok_bind, frz_tup]) (fun nm hnm acc => ?_) (by omega) (fun _ _ _ h => by cases h; rfl), filterMap_some, List.map_map]
        · rfl
        · simp only [stepL, wipeE, ap_gNm, ap_yes, ap_m2, mVar, List.set_cons_succ, List.set_cons_zero, List.getElem?_cons_succ, List.getElem?_cons_zero, Res.ok_bind, ix_encT (atA acc) (hg nm hnm), Res.noX_ok, if_true]
      have hlG : (ns.map (gv rs)).length = ns.length := by simp
      generalize ns.map (gv rs) = G at c2 hlG
      have zz : ∀ ρ' : List (Option D), mZip [mVar 2, m2 addD (mSlice mkF (mVar 2) (mPart (mC (.int 1))) mNoPart) (mSlice mkF (mVar 2) mNoPart (mPart (mC (.int 1))))] (some (.loc n) :: some (.tup (ns.map nmD)) :: some (.lst (G.map gp3)) :: ρ') st = .ok ((G.zip (G.drop 1 ++ G.take 1)).map fun p => .tup [gp3 p.1, gp3 p.2]) st := fun ρ' => by
        have : ((G.map gp3).drop 1).length + ((G.map gp3).take 1).length ≤ 16777216 := by
          simp only [List.length_drop, List.length_take, List.length_map]; omega
        have e1 : cutD (G.map gp3) none (some 1) = (G.map gp3).take 1 := cutTo _ 1
        simp only [ap_zip, ap_args1, ap_args0, ap_m2, ap_slice, ap_part, ap_nopart, ap_c, mVar, List.getElem?_cons_succ, List.getElem?_cons_zero, Res.ok_bind, resI_int, slice_lst, cut1, e1, mkF, add_lst this, frz_lst]
        rw [← List.map_drop, ← List.map_take, ← List.map_append, zipD_map]
      have c3 : mLC finF (mZip [mVar 2, m2 addD (mSlice mkF (mVar 2) (mPart (mC (.int 1))) mNoPart) (mSlice mkF (mVar 2) mNoPart (mPart (mC (.int 1))))]) (gTp 2 (gsCons (gNm 4) (gsCons (gNm 5) (gsNil)))) (asB (m2 neD (m2 ixD (mVar 4) (mC (.int 1))) (m2 ixD (mVar 5) (mC (.int 0))))) (mC (.int 1)) [4, 5] [some (.loc n), some (.tup (ns.map nmD)), some (.lst (G.map gp3)), none, none, none, none] st = .ok (.lst (((G.zip (G.drop 1 ++ G.take 1)).filter fun p => !decide (p.1.2.1 = p.2.1)).map fun _ => .int 1)) st := by
        refine lc_filtL (fun _ => .int 1) (fun p : T3 × T3 => !decide (p.1.2.1 = p.2.1)) (zz _) (fun p _ st' => ?_) (by rw [List.length_zip]; omega) (fun _ _ => rfl)
        have ek : (!(p.1.2.1 == p.2.1)) = !decide (p.1.2.1 = p.2.1) := by
          by_cases h : p.1.2.1 = p.2.1 <;> simp [h]
        simp only [stepL, wipeE, gTp_tup, List.length_cons, List.length_nil, if_true, gsCons_c, gsNil_n, ap_gNm, List.set_cons_succ, List.set_cons_zero, ap_asB, ap_m2, ap_c, mVar, List.getElem?_cons_succ, List.getElem?_cons_zero, Res.ok_bind, gp3, ixd0, ixd1, neD_int, ap_resB, Res.noX_ok, ek]
        split <;> rfl
      have c4 : mLC finF (mIt (mVar 2)) (gNm 6) (mYes) (m2 ixD (mVar 6) (mC (.int 2))) [6] [some (.loc n), some (.tup (ns.map nmD)), some (.lst (G.map gp3)), none, none, none, none] st = .ok (.lst ((G.map fun g => g.2.2).map .int)) st := by
        rw [lc_mapL (xs := G) (g0 := gp3) (fun g => .int g.2.2) (by simp only [ap_it, mVar, List.getElem?_cons_succ, List.getElem?_cons_zero, Res.ok_bind, frz_lst]) (fun g _ st' => ?_) (by omega) (fun _ _ => rfl), List.map_map]
        · rfl
        · simp only [stepL, wipeE, ap_gNm, ap_yes, ap_m2, ap_c, mVar, List.set_cons_succ, List.set_cons_zero, List.getElem?_cons_succ, List.getElem?_cons_zero, Res.ok_bind, gp3, ixd2, Res.noX_ok, if_true]
      have ea : ((G.zip (G.drop 1 ++ G.take 1)).all fun p => decide (p.1.2.1 = p.2.1)) = adjB G := rfl
      simp only [Bool.not_true, Bool.false_eq_true, if_false, Res.ok_bind, ap_nil, Res.ok_toS, RS.nx_seq, q__law_ring_right_3, ap_seq, ap_set, c2, List.set_cons_succ, List.set_cons_zero, q__law_ring_right_4, ap_if, ap_asB, ap_m2, c3, ap_lst, ap_args0, ap_mkF, nevL_nil_lst (okDL_ones 11 _), filt_empty, Bool.not_not, ap_resB, ea, Bool.true_and]
      cases adjB G with
      | false => simp only [Bool.not_false, if_true, Res.ok_bind, Res.ok_toS, ap_ret, ap_c, Bool.false_and, RS.rt_seq, endS_rt]
      | true => simp only [Bool.not_true, Bool.false_eq_true, if_false, Res.ok_bind, Res.ok_toS, ap_nil, RS.nx_seq, q__law_ring_right_6, ap_ret, ap_m2, ap_mF, ap_args1, ap_args0, c4, ap_f1, sumD_int, ap_c, ltD_int, Bool.true_and, endS_rt]
end
end G15
set_option maxHeartbeats 4000000
namespace G15
open PySem PySem.Spec PyProof.Rows L2 VI
section
variable {st : Mem} {N : Net}
theorem putT_new {rs : List Rw} {r : Rw} (hn : gt rs r.1 = none) : putD (encT rs) [.inr r.1.1, .inl r.1.2] (gp3 r.2) = encT (rs ++ [r]) := by
  unfold putD
  have : ((encT rs).any fun kv => decide (kv.1 = [.inr r.1.1, .inl r.1.2])) = false := by
    rw [List.any_eq_false]
    intro kv hkv
    obtain ⟨q, hq, rfl⟩ := List.mem_map.mp hkv
    simp only [decide_eq_true_eq]
    intro e
    have := key_nm.mp e
    have h2 : (gt rs r.1).isSome = true := gt_some.mpr (List.mem_map.mpr ⟨q, hq, this⟩)
    rw [hn] at h2; cases h2
  rw [this]
  simp [encT]
theorem gt_new {rs : List Rw} {r : Rw} (hd : ((rs ++ [r]).map (·.1)).Nodup) : gt rs r.1 = none := by
  cases e : gt rs r.1 with
  | none => rfl
  | some v =>
    have h1 : r.1 ∈ rs.map (·.1) := gt_some.mp (by rw [e]; rfl)
    rw [List.map_append, List.nodup_append] at hd
    exact absurd rfl (hd.2.2 _ h1 r.1 (List.mem_map.mpr ⟨r, List.mem_cons_self, rfl⟩))
abbrev RS2 (st : Mem) (N : Net) (rs : List Rw) : Mem := st ++ [.lst ((N.all.map (base N)).map gp3), .dT (encT rs)]
theorem rs2_b {rs : List Rw} : (RS2 st N rs)[st.length]? = some (.lst ((N.all.map (base N)).map gp3)) := by simp
theorem rs2_t {rs : List Rw} : (RS2 st N rs)[st.length + 1]? = some (.dT (encT rs)) := by simp
theorem rs2_put {rs : List Rw} {r : Rw} (hd : ((rs ++ [r]).map (·.1)).Nodup) (hl : rs.length ≤ 900) : setD (.loc (st.length + 1)) (nmD r.1) (gp3 r.2) (RS2 st N rs) = some (RS2 st N (rs ++ [r])) := by
  have hz : (encT rs).length < LINE := by
    have : (encT rs).length = rs.length := by simp [encT]
    show _ < 16777216
    omega
  unfold setD
  simp only [rs2_t, nmD, hz, if_true, keysD, keyD, Option.map_some, putT_new (gt_new hd)]
  simp
theorem base_loc (ok : N.Ok) {rs : List Rw} {x : Int} (hx : x ∈ N.all) : ixD (.loc st.length) (.int x) (RS2 st N rs) = .ok (gp3 (base N x)) (RS2 st N rs) := by
  have h := mem_all.mp hx
  refine ix_loc rs2_b h.1 ?_
  have ai : N.all[x.toNat]? = some x := by
    have : x.toNat < N.m := by omega
    simp [Net.all, this]; omega
  rw [List.getElem?_map, List.getElem?_map, ai]; rfl
theorem loopB3 {a0 a1 a2 a3 : Option D} {x9 x10 x11 x12 x13 : Option D} : ∀ (ls : List Lk) (B : List T3), (∀ l ∈ ls, 0 ≤ l.2.1 ∧ l.2.1 < B.length) → ∀ x5 x6 x7 x8 : Option D, ∃ y5 y6 y7 y8,
    forL (ls.map lkD) (stepF (gTp 4 (gsCons (gNm 5) (gsCons (gNm 6) (gsCons (gNm 7) (gsCons (gNm 8) (gsNil)))))) b__law_rows_3) [a0, a1, a2, a3, some (.loc st.length), x5, x6, x7, x8, x9, x10, x11, x12, x13] (st ++ [.lst (B.map gp3)]) =
      .nx [a0, a1, a2, a3, some (.loc st.length), y5, y6, y7, y8, x9, x10, x11, x12, x13] (st ++ [.lst ((setB B ls).map gp3)])
  | [], B, _, x5, x6, x7, x8 => ⟨x5, x6, x7, x8, rfl⟩
  | l :: ls, B, h, x5, x6, x7, x8 => by
    obtain ⟨a, c, lo, hi⟩ := l
    have hl := h _ List.mem_cons_self
    simp only at hl
    obtain ⟨y5, y6, y7, y8, ih⟩ := loopB3 (a0 := a0) (a1 := a1) (a2 := a2) (a3 := a3) (x9 := x9) (x10 := x10) (x11 := x11) (x12 := x12) (x13 := x13) ls (B.set c.toNat (a, lo, hi)) (fun q hq => by rw [List.length_set]; exact h q (List.mem_cons_of_mem _ hq)) (some (.int a)) (some (.int c)) (some (.int lo)) (some (.int hi))
    refine ⟨y5, y6, y7, y8, ?_⟩
    show _ = RS.nx _ (st ++ [.lst ((setB (B.set c.toNat (a, lo, hi)) ls).map gp3)])
    rw [← ih]
    have sd : setD (.loc st.length) (.int c) (.tup [.int a, .int lo, .int hi]) (st ++ [.lst (B.map gp3)]) = some (st ++ [.lst ((B.set c.toNat (a, lo, hi)).map gp3)]) := by
      have hi : c.toNat < (B.map gp3).length := by rw [List.length_map]; omega
      have e : ixN (B.map gp3).length c = some c.toNat := by rw [← ixN_nat hi]; congr 1; omega
      have at1 : (st ++ [Cell.lst (B.map gp3)])[st.length]? = some (.lst (B.map gp3)) := by simp
      unfold setD
      simp only [at1, e, Option.map_some]
      simp [List.map_set, gp3]
    simp only [List.map_cons, lkD, forL, stepF, gTp_tup, List.length_cons, List.length_nil, if_true, gsCons_c, gsNil_n, ap_gNm, List.set_cons_succ, List.set_cons_zero, b__law_rows_3, ap_asg, ap_tup, ap_args1, ap_args0, mVar, List.getElem?_cons_succ, List.getElem?_cons_zero, Res.ok_bind, Res.ok_toS, ap_gSub, sd]
theorem loopR1 (ok : N.Ok) {a0 a1 a2 a5 a6 a7 a8 : Option D} : ∀ (zs : List Gp) (k : Nat) (rs : List Rw), N.gs.drop k = zs → ((rs ++ tg N k zs).map (·.1)).Nodup → rs.length + zs.length ≤ 900 → ∀ x10 x11 x12 x13 : Option D, ∃ y10 y11 y12 y13 : Option D,
    forL ((Pl.irange k N.gs.length).map .int) (stepF (gNm 10) b__law_rows_6) [a0, a1, a2, some (.tup (N.gs.map gpD)), some (.loc st.length), a5, a6, a7, a8, some (.loc (st.length + 1)), x10, x11, x12, x13] (RS2 st N rs) =
      .nx [a0, a1, a2, some (.tup (N.gs.map gpD)), some (.loc st.length), a5, a6, a7, a8, some (.loc (st.length + 1)), y10, y11, y12, y13] (RS2 st N (rs ++ tg N k zs))
  | [], k, rs, hz, _, _, x10, x11, x12, x13 => by
    have : N.gs.length ≤ k := List.drop_eq_nil_iff.mp hz
    have e : Pl.irange k N.gs.length = [] := by unfold Pl.irange; rw [show ((N.gs.length : Int) - k).toNat = 0 by omega]; rfl
    rw [e]
    exact ⟨x10, x11, x12, x13, by simp [forL, tg]⟩
  | z :: zs, k, rs, hz, hd, hl, x10, x11, x12, x13 => by
    have hk : k < N.gs.length := by
      have := congrArg List.length hz
      simp only [List.length_drop, List.length_cons] at this
      omega
    have hgz : N.gs[k]? = some z := by
      have : (N.gs.drop k)[0]? = some z := by rw [hz]; rfl
      rwa [List.getElem?_drop, Nat.add_zero] at this
    have hz2 : N.gs.drop (k + 1) = zs := by
      rw [← List.drop_drop, hz]; rfl
    have hzm : z ∈ N.gs := List.mem_of_getElem? hgz
    have hzz := gs_all ok hzm
    simp only [List.length_cons] at hl
    have ee : rs ++ tg N k (z :: zs) = (rs ++ [tgR N k z]) ++ tg N (k + 1) zs := by simp [tg]
    rw [ee] at hd ⊢
    have hd1 : ((rs ++ [tgR N k z]).map (·.1)).Nodup := by
      rw [List.map_append, List.nodup_append] at hd
      exact hd.1
    obtain ⟨y10, y11, y12, y13, ih⟩ := loopR1 ok (a0 := a0) (a1 := a1) (a2 := a2) (a5 := a5) (a6 := a6) (a7 := a7) (a8 := a8) zs (k + 1) (rs ++ [tgR N k z]) hz2 hd (by simp only [List.length_append, List.length_singleton]; omega) (some (.int (k : Nat))) (some (.int z.1)) (some (.int z.2.1)) (some (.int z.2.2))
    refine ⟨y10, y11, y12, y13, ?_⟩
    rw [← ih]
    have pt := rs2_put (st := st) (N := N) hd1 (by omega)
    have er : gp3 (tgR N k z).2 = .tup [.int (base N z.1).1, .int (base N z.2.1).1, .int (z.2.2 + (base N z.1).2.1 - (base N z.2.1).2.2)] := rfl
    have en : nmD (tgR N k z).1 = .tup [.str "told", .int (k : Nat)] := rfl
    rw [er, en] at pt
    have ig : ∀ s, ixD (.tup (N.gs.map gpD)) (.int (k : Nat)) s = .ok (gpD z) s := fun s => ix_tup (by omega) (by rw [Int.toNat_natCast, List.getElem?_map, hgz]; rfl)
    rw [Pl.irange_cons (k := (k : Nat)) (by omega)]
    simp only [List.map_cons, forL, stepF, ap_gNm, List.set_cons_succ, List.set_cons_zero, b__law_rows_6, ap_seq, ap_asg, ap_m2, mVar, List.getElem?_cons_succ, List.getElem?_cons_zero, Res.ok_bind, ig, Res.ok_toS, gpD, gTp_tup, List.length_cons, List.length_nil, if_true, gsCons_c, gsNil_n, RS.nx_seq, q__law_rows_8, ap_tup, ap_args1, ap_args0, ap_c, base_loc ok hzz.1, base_loc ok hzz.2]
    simp only [gp3, ixd0, ixd1, ixd2, base_loc ok hzz.1, base_loc ok hzz.2, addD_int, subD_int, Res.ok_bind, Res.ok_toS, ap_gSub, ap_tup, ap_args1, ap_args0, ap_c, mVar, List.getElem?_cons_succ, List.getElem?_cons_zero, pt]
    rfl
theorem loopR2 (ok : N.Ok) {a0 a1 a2 a3 a5 a6 a7 a8 a10 a11 a13 : Option D} : ∀ (ys : List Int) (rs : List Rw), (∀ y ∈ ys, y ∈ N.all) → ((rs ++ ys.map (bgR N)).map (·.1)).Nodup → rs.length + ys.length ≤ 900 → ∀ x12 : Option D, ∃ y12 : Option D,
    forL (ys.map .int) (stepF (gNm 12) b__law_rows_9) [a0, a1, a2, a3, some (.loc st.length), a5, a6, a7, a8, some (.loc (st.length + 1)), a10, a11, x12, a13] (RS2 st N rs) =
      .nx [a0, a1, a2, a3, some (.loc st.length), a5, a6, a7, a8, some (.loc (st.length + 1)), a10, a11, y12, a13] (RS2 st N (rs ++ ys.map (bgR N)))
  | [], rs, _, _, _, x12 => ⟨x12, by simp [forL]⟩
  | y :: ys, rs, h, hd, hl, x12 => by
    have hy := h y List.mem_cons_self
    simp only [List.length_cons] at hl
    have ee : rs ++ (y :: ys).map (bgR N) = (rs ++ [bgR N y]) ++ ys.map (bgR N) := by simp
    rw [ee] at hd ⊢
    have hd1 : ((rs ++ [bgR N y]).map (·.1)).Nodup := by
      rw [List.map_append, List.nodup_append] at hd
      exact hd.1
    obtain ⟨y12, ih⟩ := loopR2 ok (a0 := a0) (a1 := a1) (a2 := a2) (a3 := a3) (a5 := a5) (a6 := a6) (a7 := a7) (a8 := a8) (a10 := a10) (a11 := a11) (a13 := a13) ys (rs ++ [bgR N y]) (fun q hq => h q (List.mem_cons_of_mem _ hq)) hd (by simp only [List.length_append, List.length_singleton]; omega) (some (.int y))
    refine ⟨y12, ?_⟩
    rw [← ih]
    have pt := rs2_put (st := st) (N := N) hd1 (by omega)
    have er : gp3 (bgR N y).2 = .tup [.int (base N y).1, .int 0, .int (base N y).2.1] := rfl
    have en : nmD (bgR N y).1 = .tup [.str "begin", .int y] := rfl
    rw [er, en] at pt
    simp only [List.map_cons, forL, stepF, ap_gNm, List.set_cons_succ, List.set_cons_zero, b__law_rows_9, ap_asg, ap_m2, ap_tup, ap_args1, ap_args0, ap_c, mVar, List.getElem?_cons_succ, List.getElem?_cons_zero, Res.ok_bind, base_loc ok hy]
    simp only [gp3, ixd0, ixd1, base_loc ok hy, Res.ok_bind, Res.ok_toS, ap_gSub, ap_tup, ap_args1, ap_args0, ap_c, mVar, List.getElem?_cons_succ, List.getElem?_cons_zero, pt]
theorem rows_eq (ok : N.Ok) : F__law_rows [N.d] st = .ok (.loc (st.length + 1)) (RS2 st N (tight N)) := by
  have hm := ok.m6
  have hm2 := ok.m2
  have h15 := ok.g15
  have al : N.all.length = N.m := by simp [Net.all]
  have c1 : ∀ x4 x5 x6 x7 x8 x9 x10 x12 x13 : Option D, mLC finN (mRng1 (mVar 1)) (gNm 11) (mYes) (mTup [mVar 11, mC (.int 0), mC (.int 0)]) [11] [some N.d, some (.int N.m), some (.tup (N.ls.map lkD)), some (.tup (N.gs.map gpD)), x4, x5, x6, x7, x8, x9, x10, none, x12, x13] st = .ok (.loc st.length) (st ++ [.lst ((N.all.map fun x => ((x, 0, 0) : T3)).map gp3)]) := fun x4 x5 x6 x7 x8 x9 x10 x12 x13 => by
    unfold mLC
    have hi : mRng1 (mVar 1) [some N.d, some (.int N.m), some (.tup (N.ls.map lkD)), some (.tup (N.gs.map gpD)), x4, x5, x6, x7, x8, x9, x10, none, x12, x13] st = .ok (N.all.map .int) st := by
      simp only [ap_rng1, mVar, List.getElem?_cons_succ, List.getElem?_cons_zero, Res.ok_bind, big_m ok, if_true, Int.toNat_natCast]
      rw [rangeL_0]; rfl
    rw [hi, Res.ok_bind, lcL_pureL (xs := N.all) (g0 := D.int) (F := fun x => some (gp3 (x, 0, 0))) (fun x hx acc => ?_) (by simp; omega)]
    · simp only [Res.ok_bind, finN, List.nil_append]
      rw [filterMap_some, List.map_map]
      rfl
    · simp only [stepL, wipeE, ap_gNm, ap_yes, ap_tup, ap_args1, ap_args0, ap_c, mVar, List.set_cons_succ, List.set_cons_zero, List.getElem?_cons_succ, List.getElem?_cons_zero, Res.ok_bind, Res.noX_ok, if_true]
      rfl
  obtain ⟨y5, y6, y7, y8, l1⟩ := loopB3 (st := st) (a0 := some N.d) (a1 := some (.int N.m)) (a2 := some (.tup (N.ls.map lkD))) (a3 := some (.tup (N.gs.map gpD))) (x9 := none) (x10 := none) (x11 := none) (x12 := none) (x13 := none) N.ls (N.all.map fun x => ((x, 0, 0) : T3)) (fun l hl => by have := ok.lk l hl; rw [List.length_map, al]; omega) none none none none
  rw [setB_eq ok] at l1
  have nd := tight_nd (N := N)
  have nd1 : ((([] : List Rw) ++ tg N 0 N.gs).map (·.1)).Nodup := by
    unfold tight at nd
    rw [List.map_append, List.nodup_append] at nd
    exact nd.1
  obtain ⟨y10, y11, y12, y13, l2⟩ := loopR1 (st := st) ok (a0 := some N.d) (a1 := some (.int N.m)) (a2 := some (.tup (N.ls.map lkD))) (a5 := y5) (a6 := y6) (a7 := y7) (a8 := y8) N.gs 0 [] (by simp) nd1 (by simp only [List.length_nil]; omega) none none none none
  rw [List.nil_append] at l2
  obtain ⟨z12, l3⟩ := loopR2 (st := st) ok (a0 := some N.d) (a1 := some (.int N.m)) (a2 := some (.tup (N.ls.map lkD))) (a3 := some (.tup (N.gs.map gpD))) (a5 := y5) (a6 := y6) (a7 := y7) (a8 := y8) (a10 := y10) (a11 := y11) (a13 := y13) (Pl.irange 1 N.m) (tg N 0 N.gs) (fun y hy => by have := Pl.mem_irange.mp hy; exact mem_all.mpr ⟨by omega, this.2⟩) nd (by rw [tg_len, Pl.length_irange]; omega) y12
  have mk : ∀ ρ' s, mNewT ρ' s = .ok (.loc s.length) (s ++ [.dT []]) := fun ρ' s => rfl
  have g1 : ∀ ρ' s, mRng1 (mF (f1 lenD) [mVar 3]) (some N.d :: some (.int N.m) :: some (.tup (N.ls.map lkD)) :: some (.tup (N.gs.map gpD)) :: ρ') s = .ok ((Pl.irange 0 N.gs.length).map .int) s := fun ρ' s => rng1_eq (by
    simp only [ap_mF, ap_args1, ap_args0, mVar, List.getElem?_cons_succ, List.getElem?_cons_zero, Res.ok_bind, ap_f1, lenD_tup, List.length_map]) (by omega)
  have g2 : ∀ ρ' s, mRng2 (mC (.int 1)) (mVar 1) (some N.d :: some (.int N.m) :: ρ') s = .ok ((Pl.irange 1 N.m).map .int) s := fun ρ' s => rng2_eq (by simp only [ap_c]) (by simp only [mVar, List.getElem?_cons_succ, List.getElem?_cons_zero]) (by decide) (by omega)
  have m0 : (st ++ [Cell.lst ((N.all.map (base N)).map gp3)]) ++ [Cell.dT []] = RS2 st N [] := by simp [encT]
  have hl1 : (st ++ [Cell.lst ((N.all.map (base N)).map gp3)]).length = st.length + 1 := by simp
  have l2' : forL ((Pl.irange 0 N.gs.length).map .int) (stepF (gNm 10) b__law_rows_6) [some N.d, some (.int N.m), some (.tup (N.ls.map lkD)), some (.tup (N.gs.map gpD)), some (.loc st.length), y5, y6, y7, y8, some (.loc (st.length + 1)), none, none, none, none] (RS2 st N []) = _ := l2
  show endS (m__law_rows [some N.d, none, none, none, none, none, none, none, none, none, none, none, none, none] st) = _
  have gd : N.d = .tup [.int N.m, .tup (N.ls.map lkD), .tup (N.gs.map gpD)] := rfl
  have a0 : m__law_rows [some N.d, none, none, none, none, none, none, none, none, none, none, none, none, none] st = q__law_rows_2 [some N.d, some (.int N.m), some (.tup (N.ls.map lkD)), some (.tup (N.gs.map gpD)), none, none, none, none, none, none, none, none, none, none] st := by
    simp only [m__law_rows, ap_seq, ap_asg, mVar, List.getElem?_cons_zero, Res.ok_toS, gd, gTp_tup, List.length_cons, List.length_nil, if_true, gsCons_c, gsNil_n, ap_gNm, List.set_cons_succ, List.set_cons_zero, RS.nx_seq]
  rw [a0]
  simp only [q__law_rows_2, ap_seq, ap_set, c1, Res.ok_toS, List.set_cons_succ, List.set_cons_zero, RS.nx_seq, q__law_rows_3, sFor, ap_it, mVar, List.getElem?_cons_succ, List.getElem?_cons_zero, Res.ok_bind, frz_tup, l1, q__law_rows_5, mk, hl1, m0, q__law_rows_6, g1, l2', q__law_rows_9, g2, l3, q__law_rows_11, ap_ret, endS_rt]
  rfl
end
end G15
set_option maxHeartbeats 4000000
namespace G15
open PySem PySem.Spec PyProof.Rows L2 VI
section
variable {st : Mem} {n : Nat} {many B : Int}
/-- the last part of a draw -/
theorem draw_end (hl : n < st.length) (q : Pen) (ok : PenOk B 2147483543 q) (hB : B ≤ 1000000) (h1 : 1 ≤ many) (h2 : many < 1073741824) (x y z : Option D) :
    ∃ r q', endS (q__law_draw_9 [some (.loc n), some (.int many), x, y, z] (st.set n (penC q))) = .ok (.int r) (st.set n (penC q')) ∧ 0 ≤ r ∧ r < many ∧ PenOk B 2147483543 q' ∧ q'.cells = q.cells := by
  obtain ⟨c1, c2, c3, c4, c5, c6⟩ := ok
  have s98 : VI.small64 9697 = true := by decide
  by_cases hd : 0 < q.dg
  · refine ⟨q.dg % many, { q with dg := q.dg / many }, ?_, Int.emod_nonneg _ (by omega), Int.emod_lt_of_pos _ (by omega), ⟨c1, Int.ediv_nonneg c2 (by omega), c3, c4, c5, c6⟩, rfl⟩
    simp [q__law_draw_9, q__law_draw_11, q__law_draw_12, q__law_draw_13, q__law_draw_14, mVar, ixS_digits hl, gtD_int, hd, intD_int, modD_int (show 0 < many by omega), fdivD_int (show 0 < many by omega) h2, setS_digits hl]
  · have sb : VI.small64 (q.fold + q.ct * 9697 + 151) = true := small64_of (by omega) (by omega)
    refine ⟨((q.fold + q.ct * 9697 + 151) ^ 23 % 2305843009213693951) / 128 % many, q, ?_, Int.emod_nonneg _ (by omega), Int.emod_lt_of_pos _ (by omega), ⟨c1, c2, c3, c4, c5, c6⟩, rfl⟩
    simp [q__law_draw_9, q__law_draw_11, q__law_draw_12, q__law_draw_13, q__law_draw_14, mVar, ixS_digits hl, ixS_fold hl, ixS_count hl, gtD_int, hd, intD_int, addD_int, mulD_int (mk := mkF) (i := q.ct) (.inr s98), powD_int (j := 23) (by decide) (by decide) sb, modD_int (show (0 : Int) < 2305843009213693951 by decide), fdivD_int (show (0 : Int) < 128 by decide) (by decide), modD_int (show 0 < many by omega)]
theorem draw_ok {p : Pen} (h : st[n]? = some (penC p)) (ok : PenOk B 2147483543 p) (hB : B ≤ 999999) (h1 : 1 ≤ many) (h2 : many < 1073741824) :
    ∃ r q, F__law_draw [.loc n, .int many] st = .ok (.int r) (st.set n (penC q)) ∧ 0 ≤ r ∧ r < many ∧ PenOk (B + 1) 2147483543 q ∧ q.cells = p.cells := by
  have hl : n < st.length := (List.getElem?_eq_some_iff.mp h).1
  obtain ⟨b1, b2, b3, b4, b5, b6⟩ := ok
  have e0 : st = st.set n (penC p) := (set_self h).symm
  have s10 : VI.small64 10 = true := by decide
  have sM : VI.small64 70843 = true := by decide
  have p18 : (10 : Int) ^ (18 : Nat) = 1000000000000000000 := by decide
  have key : ∃ q x, F__law_draw [.loc n, .int many] st = endS (q__law_draw_9 [some (.loc n), some (.int many), x, none, none] (st.set n (penC q))) ∧ PenOk (B + 1) 2147483543 q ∧ q.cells = p.cells := by
    rw [e0]
    simp only [List.set_set]
    by_cases hc : p.dg = 0 ∧ p.a < p.cells.length
    · obtain ⟨c, hc1, hc2⟩ := ix_ints (ns := p.cells) b1 hc.2
      by_cases hg : 1000000000000000000 ≤ c
      · refine ⟨{ p with ct := p.ct + 1, a := p.a + 1, dg := c - 1000000000000000000 }, some (.int c), ?_, ⟨by show 0 ≤ p.a + 1; omega, by show 0 ≤ c - 1000000000000000000; omega, by show 0 ≤ p.ct + 1; omega, by show p.ct + 1 ≤ B + 1; omega, b5, b6⟩, rfl⟩
        simp [F__law_draw, bodyF_eq, m__law_draw, q__law_draw_2, q__law_draw_4, q__law_draw_5, startE, List.replicate, mVar, ixS_count hl, ixS_digits hl, ixS_at hl, ixS_cells hl, ixS_fold hl, addD_int, setS_count hl, setS_at hl, setS_digits hl, eqD_int, hc.1, hc.2, ltD_int, lenS_cells, hc2, powD_int (i := 10) (j := 18) (by decide) (by decide) s10, p18, geD_int, hg, subD_int]
      · refine ⟨{ p with ct := p.ct + 1, a := p.a + 1, fold := (p.fold * 70843 + c) % 2147483543 }, some (.int c), ?_, ⟨by show 0 ≤ p.a + 1; omega, b2, by show 0 ≤ p.ct + 1; omega, by show p.ct + 1 ≤ B + 1; omega, Int.emod_nonneg _ (by decide), Int.le_of_lt (Int.emod_lt_of_pos _ (by decide))⟩, rfl⟩
        simp [F__law_draw, bodyF_eq, m__law_draw, q__law_draw_2, q__law_draw_4, q__law_draw_5, startE, List.replicate, mVar, ixS_count hl, ixS_digits hl, ixS_at hl, ixS_cells hl, ixS_fold hl, addD_int, setS_count hl, setS_at hl, setS_fold hl, eqD_int, hc.1, hc.2, ltD_int, lenS_cells, hc2, powD_int (i := 10) (j := 18) (by decide) (by decide) s10, p18, geD_int, hg, mulD_int (mk := mkF) (i := p.fold) (.inr sM), intD_int, modD_int (show (0 : Int) < 2147483543 by decide)]
    · refine ⟨{ p with ct := p.ct + 1 }, none, ?_, ⟨b1, b2, by show 0 ≤ p.ct + 1; omega, by show p.ct + 1 ≤ B + 1; omega, b5, b6⟩, rfl⟩
      by_cases hd : p.dg = 0
      · have ha : ¬ p.a < p.cells.length := fun z => hc ⟨hd, z⟩
        simp [F__law_draw, bodyF_eq, m__law_draw, q__law_draw_2, q__law_draw_4, q__law_draw_5, startE, List.replicate, mVar, ixS_count hl, ixS_digits hl, ixS_at hl, ixS_cells hl, addD_int, setS_count hl, eqD_int, hd, ha, ltD_int, lenS_cells]
      · simp [F__law_draw, bodyF_eq, m__law_draw, q__law_draw_2, q__law_draw_4, q__law_draw_5, startE, List.replicate, mVar, ixS_count hl, ixS_digits hl, addD_int, setS_count hl, eqD_int, hd]
  obtain ⟨q, x, e1, ok2, ec⟩ := key
  obtain ⟨r, q', e2, r0, r1, ok3, ec2⟩ := draw_end hl q ok2 (by omega) h1 h2 x none none
  exact ⟨r, q', e1.trans e2, r0, r1, ok3, ec2.trans ec⟩
end

/-! ### the pen made -/
theorem pen_ok (ns : List Int) : ∃ p, F__law_pen [.fz (ns.map .int)] [] = .ok (.loc 0) [penC p] ∧ PenOk 0 2147483543 p := by
  have loop : ∀ (l : List Int) (f : Int) (x y : Option D), 0 ≤ f → f ≤ 1000000289 → ∃ f' y', forL (l.map .int) (stepF (gNm 2) b__law_pen_2) [x, some (.int f), y] [] = .nx [x, some (.int f'), y'] [] ∧ 0 ≤ f' ∧ f' ≤ 1000000289 := by
    intro l
    induction l with
    | nil => intro f x y h0 h1; exact ⟨f, y, rfl, h0, h1⟩
    | cons c l ih =>
      intro f x y h0 h1
      have s233 : VI.small64 233 = true := by decide
      obtain ⟨f', y', e, b0, b1⟩ := ih ((f * 233 + c) % 1000000289) x (some (.int c)) (Int.emod_nonneg _ (by decide)) (Int.le_of_lt (Int.emod_lt_of_pos _ (by decide)))
      refine ⟨f', y', ?_, b0, b1⟩
      rw [← e]
      simp [forL, stepF, b__law_pen_2, mVar, mulD_int (mk := mkF) (i := f) (.inr s233), addD_int, intD_int, modD_int (show (0 : Int) < 1000000289 by decide)]
  obtain ⟨f, y, e, h0, h1⟩ := loop ns 0 (some (.fz (ns.map .int))) none (by decide) (by decide)
  refine ⟨⟨ns, 0, 0, 0, f⟩, ?_, ⟨by show (0 : Int) ≤ 0; omega, by show (0 : Int) ≤ 0; omega, by show (0 : Int) ≤ 0; omega, by show (0 : Int) ≤ 0; omega, h0, by show f ≤ 2147483543; omega⟩⟩
  have e2 : sFor (mIt (mVar 0)) (gNm 2) b__law_pen_2 [some (.fz (ns.map .int)), some (.int 0), none] [] = .nx [some (.fz (ns.map .int)), some (.int f), y] [] := by
    rw [← e]
    simp [sFor, mIt, mVar, frzD]
  have e3 : listD mkF (.fz (ns.map .int)) [Cell.dK []] = .ok (.lst (ns.map .int)) [Cell.dK []] := by simp [listD, seqD]
  simp [F__law_pen, bodyF_eq, m__law_pen, startE, List.replicate, q__law_pen_2, e, q__law_pen_4, mDisp, mPairs, mVar, e3, keyPs, keyD]
  rfl

abbrev MM (p : Pen) (g xs : Mem) : Mem := penC p :: (g ++ xs)
section
variable {p : Pen} {g xs ys : Mem} {a b c d e : Cell}
theorem mm_len : (MM p g xs).length = g.length + 1 + xs.length := by simp only [List.length_cons, List.length_append]; omega
theorem mm_push : MM p g xs ++ ys = MM p g (xs ++ ys) := by simp
theorem mm_get (j : Nat) : (MM p g xs)[g.length + 1 + j]? = xs[j]? := by
  rw [show g.length + 1 + j = (g.length + j) + 1 by omega, List.getElem?_cons_succ, List.getElem?_append_right (by omega)]
  congr 1; omega
theorem mm_set (j : Nat) : (MM p g xs).set (g.length + 1 + j) a = MM p g (xs.set j a) := by
  rw [show g.length + 1 + j = (g.length + j) + 1 by omega, List.set_cons_succ, List.set_append_right _ _ (by omega)]
  congr 3; omega
theorem mg0 : (MM p g (a :: xs))[g.length + 1]? = some a := mm_get 0
theorem mg1 : (MM p g (a :: b :: xs))[g.length + 1 + 1]? = some b := mm_get 1
theorem mg2 : (MM p g (a :: b :: c :: xs))[g.length + 1 + 2]? = some c := mm_get 2
theorem mg3 : (MM p g (a :: b :: c :: d :: xs))[g.length + 1 + 3]? = some d := mm_get 3
theorem ms0 : (MM p g (a :: xs)).set (g.length + 1) e = MM p g (e :: xs) := mm_set 0
theorem ms1 : (MM p g (a :: b :: xs)).set (g.length + 1 + 1) e = MM p g (a :: e :: xs) := mm_set 1
theorem ms2 : (MM p g (a :: b :: c :: xs)).set (g.length + 1 + 2) e = MM p g (a :: b :: e :: xs) := mm_set 2
theorem ms3 : (MM p g (a :: b :: c :: d :: xs)).set (g.length + 1 + 3) e = MM p g (a :: b :: c :: e :: xs) := mm_set 3
end
abbrev ci (xs : List Int) : Cell := .lst (xs.map .int)
theorem seqIx {r : Int} {n : Nat} (h0 : 0 ≤ r) (h1 : r < n) : seqIndex? r n = some r.toNat := by
  unfold seqIndex?
  have : ¬ r < 0 := by omega
  simp [this, h0, h1]
theorem map_erase (f : Int → D) : ∀ (L : List Int) (k : Nat), (L.map f).eraseIdx k = (L.eraseIdx k).map f
  | [], _ => rfl
  | _ :: _, 0 => rfl
  | x :: L, k + 1 => by simp [List.eraseIdx, map_erase f L k]
theorem erase_perm {L : List Int} {k : Nat} (h : k < L.length) : (L[k] :: L.eraseIdx k).Perm L := by
  rw [List.eraseIdx_eq_take_drop_succ]
  have e : L = L.take k ++ L[k] :: L.drop (k + 1) := by simp
  exact (List.perm_middle.symm).trans (by rw [← e])

abbrev PK (B : Int) (p : Pen) : Prop := PenOk B 2147483543 p
theorem pen_mono {B B' : Int} {p : Pen} (h : PK B p) (hb : B ≤ B') : PK B' p := ⟨h.a0, h.dg, h.c0, Int.le_trans h.cB hb, h.f0, h.fM⟩
section
variable {many B : Int}
/-- the pen stands first -/
theorem draw0 {p : Pen} {rest : Mem} (ok : PK B p) (hB : B ≤ 999999) (h1 : 1 ≤ many) (h2 : many < 1073741824) :
    ∃ r q, F__law_draw [.loc 0, .int many] (penC p :: rest) = .ok (.int r) (penC q :: rest) ∧ 0 ≤ r ∧ r < many ∧ PK (B + 1) q := by
  obtain ⟨r, q, e, a, b, c, _⟩ := draw_ok (st := penC p :: rest) (n := 0) rfl ok hB h1 h2
  exact ⟨r, q, e, a, b, c⟩
/-- a pick -/
theorem pickL {p : Pen} {rest : Mem} {xs : List D} (ok : PK B p) (hB : B ≤ 999999) (h1 : 1 ≤ xs.length) (h2 : xs.length ≤ 1000) :
    ∃ x q, F__law_pick [.loc 0, .lst xs] (penC p :: rest) = .ok x (penC q :: rest) ∧ x ∈ xs ∧ PK (B + 1) q := by
  obtain ⟨r, q, e, r0, r1, ok2⟩ := draw0 (many := (xs.length : Nat)) (rest := rest) ok hB (by omega) (by omega)
  have hr : r.toNat < xs.length := by omega
  refine ⟨xs[r.toNat], q, ?_, List.getElem_mem _, ok2⟩
  have ei : ixD (.lst xs) (.int r) (penC q :: rest) = .ok xs[r.toNat] (penC q :: rest) := ix_lst r0 (by simp [hr])
  simp [F__law_pick, bodyF_eq, m__law_pick, startE, List.replicate, mVar, lenD_lst', e, ei]
theorem pick0 {p : Pen} {rest : Mem} {xs : List Int} (ok : PK B p) (hB : B ≤ 999999) (h1 : 1 ≤ xs.length) (h2 : xs.length ≤ 1000) :
    ∃ x q, F__law_pick [.loc 0, .lst (xs.map .int)] (penC p :: rest) = .ok (.int x) (penC q :: rest) ∧ x ∈ xs ∧ PK (B + 1) q := by
  obtain ⟨d, q, e, hd, ok2⟩ := pickL (xs := xs.map D.int) (rest := rest) ok hB (by simpa using h1) (by simpa using h2)
  obtain ⟨x, hx, rfl⟩ := List.mem_map.mp hd
  exact ⟨x, q, e, hx, ok2⟩
end
section
variable {B : Int} {g : Mem}
/-- cells that hold no names of cells -/
def Flat (g : Mem) : Prop := ∀ c ∈ g, ∀ n, c.below n = true
theorem flat_below {n : Nat} (h : Flat g) : g.all (Cell.below n) = true := by
  rw [List.all_eq_true]
  exact fun c hc => h c hc n
theorem clean_mm {p q : Pen} {xs : Mem} (hg : Flat g) : clean (penC p :: g) (MM q g xs) = true := by
  unfold clean
  rw [Bool.or_eq_true]
  refine .inr ?_
  rw [Bool.and_eq_true, decide_eq_true_eq]
  refine ⟨by rw [mm_len]; simp only [List.length_cons]; omega, ?_⟩
  have : (MM q g xs).take (penC p :: g).length = penC q :: g := by simp
  rw [this, List.all_cons, Bool.and_eq_true]
  refine ⟨?_, flat_below hg⟩
  show belowL _ [_, _, _, _, _] = true
  simp only [belowL, belowD, below_ints, Bool.and_self]
theorem loopE {X : List Int} {a1 : Option D} : ∀ (is : List Int) (E L : List Int) (p : Pen) (B : Int), (E ++ L).Perm X → is.length ≤ L.length → L.length ≤ 1000 → E.length + is.length ≤ 1000 → PK B p → B + is.length ≤ 999999 → ∀ x4 : Option D,
    ∃ E' L' p' y4, (E' ++ L').Perm X ∧ E'.length = E.length + is.length ∧ PK (B + is.length) p' ∧
      forL (is.map .int) (stepF (gNm 4) b__law_shuffled_2) [some (.loc 0), a1, some (.loc (g.length + 1)), some (.loc (g.length + 1 + 1)), x4] (MM p g [ci L, ci E]) =
        .nx [some (.loc 0), a1, some (.loc (g.length + 1)), some (.loc (g.length + 1 + 1)), y4] (MM p' g [ci L', ci E'])
  | [], E, L, p, B, hp, _, _, _, ok, _, x4 => ⟨E, L, p, x4, hp, rfl, by simpa using ok, rfl⟩
  | i :: is, E, L, p, B, hp, h1, h2, h3, ok, hB, x4 => by
    simp only [List.length_cons] at h1 h3 hB
    obtain ⟨r, q, e, r0, r1, ok1⟩ := draw0 (many := (L.length : Nat)) (rest := g ++ [ci L, ci E]) ok (by omega) (by omega) (by omega)
    have hr : r.toNat < L.length := by omega
    have hp2 : ((E ++ [L[r.toNat]]) ++ L.eraseIdx r.toNat).Perm X := by
      refine List.Perm.trans ?_ hp
      rw [List.append_assoc]
      exact List.Perm.append_left E (erase_perm hr)
    obtain ⟨E', L', p', y4, c1, c2, c3, c4⟩ := loopE (X := X) (a1 := a1) is (E ++ [L[r.toNat]]) (L.eraseIdx r.toNat) q (B + 1) hp2 (by rw [List.length_eraseIdx_of_lt hr]; omega) (by rw [List.length_eraseIdx_of_lt hr]; omega) (by simp only [List.length_append, List.length_singleton]; omega) ok1 (by omega) (some (.int i))
    refine ⟨E', L', p', y4, c1, ?_, ?_, ?_⟩
    · rw [c2]; simp only [List.length_append, List.length_cons, List.length_nil]; omega
    · rw [show B + ((i :: is).length : Nat) = B + 1 + (is.length : Nat) by simp only [List.length_cons]; omega]; exact c3
    · rw [← c4]
      have t5 : isT "list" (.loc (g.length + 1)) (MM p g [ci L, ci E]) = true := by simp only [isT, mg0]; rfl
      have t6 : isT "list" (.loc (g.length + 1 + 1)) (MM p g [ci L, ci E]) = true := by simp only [isT, mg1]; rfl
      have ln : lenD (.loc (g.length + 1)) (MM p g [ci L, ci E]) = .ok (.int (L.length : Nat)) (MM p g [ci L, ci E]) := by
        unfold lenD; simp only [mg0, List.length_map]
      have pp : popAtD (.loc (g.length + 1)) [.int r] (MM q g [ci L, ci E]) = .ok (.int L[r.toNat]) (MM q g [ci (L.eraseIdx r.toNat), ci E]) := by
        have hg : (L.map D.int)[r.toNat]? = some (.int L[r.toNat]) := by simp [hr]
        unfold popAtD
        simp only [mg0, small_big (show -1000000 ≤ r by omega) (show r ≤ 1000000 by omega), if_true, List.length_map, seqIx r0 r1, hg, ms0, map_erase]
      have ap : appendD (.loc (g.length + 1 + 1)) [.int L[r.toNat]] (MM q g [ci (L.eraseIdx r.toNat), ci E]) = .ok .non (MM q g [ci (L.eraseIdx r.toNat), ci (E ++ [L[r.toNat]])]) := by
        have hl : (E.map D.int).length < LINE := by rw [List.length_map]; show _ < 16777216; omega
        unfold appendD
        simp only [mg1, hl, if_true, ms1]
        simp
      simp only [List.map_cons, forL, stepF, ap_gNm, List.set_cons_succ, List.set_cons_zero, b__law_shuffled_2, ap_drop, ap_bm, mVar, List.getElem?_cons_succ, List.getElem?_cons_zero, Res.ok_bind, t5, t6, if_true, ap_args1, ap_args0, ap_mF, ap_f1, ln, e, pp, ap, Res.ok_toS]
theorem shuffled_ok {p : Pen} {X : List Int} (hg : Flat g) (ok : PK B p) (hB : B ≤ 900000) (hX : X.length ≤ 100) :
    ∃ (Y : List Int) (q : Pen), Y.Perm X ∧ PK (B + X.length) q ∧ F__law_shuffled [.loc 0, .lst (X.map .int)] (penC p :: g) = .ok (.lst (Y.map .int)) (penC q :: g) := by
  have li : (Pl.irange 0 (X.length : Int)).length = X.length := by rw [Pl.length_irange]; omega
  obtain ⟨E, L, q, y4, c1, c2, c3, c4⟩ := loopE (g := g) (X := X) (a1 := some (.lst (X.map .int))) (Pl.irange 0 X.length) [] X p B (by simp) (by omega) (by omega) (by simp only [List.length_nil]; omega) ok (by omega) none
  rw [List.length_nil, Nat.zero_add, li] at c2
  have hL : L = [] := by
    have := c1.length_eq
    rw [List.length_append] at this
    exact List.length_eq_zero_iff.mp (by omega)
  subst hL
  rw [List.append_nil] at c1
  rw [li] at c3
  refine ⟨E, q, c1, c3, ?_⟩
  have k1 : listD mkN (.lst (X.map .int)) (penC p :: g) = .ok (.loc (g.length + 1)) (MM p g [ci X]) := by
    unfold listD
    simp only [seqD, mkN]
    simp
  have k2 : mkN [] (MM p g [ci X]) = .ok (.loc (g.length + 1 + 1)) (MM p g [ci X, ci []]) := by
    unfold mkN
    rw [mm_len, mm_push]; rfl
  have rg : ∀ ρ' s, mRng1 (mF (f1 lenD) [mVar 1]) (some (.loc 0) :: some (.lst (X.map .int)) :: ρ') s = .ok ((Pl.irange 0 X.length).map .int) s := fun ρ' s => rng1_eq (by
    simp only [ap_mF, ap_args1, ap_args0, mVar, List.getElem?_cons_succ, List.getElem?_cons_zero, Res.ok_bind, ap_f1, lenD_lst', List.length_map]) (by omega)
  have run : m__law_shuffled [some (.loc 0), some (.lst (X.map .int)), none, none, none] (penC p :: g) = .rt (.loc (g.length + 1 + 1)) (MM q g [ci [], ci E]) := by
    simp only [m__law_shuffled, ap_seq, ap_par, ap_mF, ap_args1, ap_args0, mVar, List.getElem?_cons_succ, List.getElem?_cons_zero, Res.ok_bind, ap_f1, k1, Res.ok_toS, ap_lst, k2, List.set_cons_succ, List.set_cons_zero, RS.nx_seq, q__law_shuffled_2, sFor, rg, c4, q__law_shuffled_4, ap_ret]
  show dropF (penC p :: g) (endS (m__law_shuffled [some (.loc 0), some (.lst (X.map .int)), none, none, none] (penC p :: g))) = _
  rw [run]
  have hb : belowL (penC p :: g).length (E.map .int) = true := below_ints _ _
  have hle : (penC p :: g).length ≤ g.length + 1 + 1 := by simp
  simp only [endS_rt, dropF, mg1, hb, clean_mm hg, hle, decide_true, Bool.and_self, if_true]
  simp
end
end G15
set_option maxHeartbeats 4000000
namespace G15
open PySem PySem.Spec PyProof.Rows L2 VI
section
variable {B : Int} {g : Mem}
/-- a drawn link -/
def LkOk (O : List Int) (l : Lk) : Prop := l.1 ∈ O ∧ 1 ≤ l.2.2.1 ∧ l.2.2.1 ≤ 3 ∧ l.2.2.1 ≤ l.2.2.2 ∧ l.2.2.2 ≤ l.2.2.1 + 2
theorem loopKk {a1 a2 a4 a5 a6 a7 : Option D} {O : List Int} (hO : 1 ≤ O.length) (hO2 : O.length ≤ 1000) : ∀ (cs : List Int) (T : List Lk) (p : Pen) (B : Int), (∀ l ∈ T, LkOk O l) → T.length + cs.length ≤ 1000 → PK B p → B + 3 * cs.length ≤ 999999 → ∀ x10 x11 x12 x13 x14 x15 x16 : Option D,
    ∃ (T' : List Lk) (p' : Pen) (y10 y11 : Option D), (∀ l ∈ T', LkOk O l) ∧ T'.map (·.2.1) = T.map (·.2.1) ++ cs ∧ PK (B + 3 * cs.length) p' ∧
      forL (cs.map .int) (stepF (gNm 10) b__law_network_6) [some (.loc 0), a1, a2, some (.int 3), a4, a5, a6, a7, some (.lst (O.map .int)), some (.loc (g.length + 1)), x10, x11, x12, x13, x14, x15, x16] (MM p g [.lst (T.map lkD)]) =
        .nx [some (.loc 0), a1, a2, some (.int 3), a4, a5, a6, a7, some (.lst (O.map .int)), some (.loc (g.length + 1)), y10, y11, x12, x13, x14, x15, x16] (MM p' g [.lst (T'.map lkD)])
  | [], T, p, B, hT, _, ok, _, x10, x11, x12, x13, x14, x15, x16 => ⟨T, p, x10, x11, hT, by simp, by simpa using ok, rfl⟩
  | c :: cs, T, p, B, hT, h3, ok, hB, x10, x11, x12, x13, x14, x15, x16 => by
    simp only [List.length_cons] at h3 hB
    obtain ⟨r1, q1, e1, a1', b1', ok1⟩ := draw0 (many := 3) (rest := g ++ [.lst (T.map lkD)]) ok (by omega) (by decide) (by decide)
    obtain ⟨x, q2, e2, hx, ok2⟩ := pick0 (rest := g ++ [.lst (T.map lkD)]) ok1 (by omega) hO hO2
    obtain ⟨r3, q3, e3, a3', b3', ok3⟩ := draw0 (many := 3) (rest := g ++ [.lst (T.map lkD)]) ok2 (by omega) (by decide) (by decide)
    obtain ⟨T', p', y10, y11, c1, c2, c3, c4⟩ := loopKk (a1 := a1) (a2 := a2) (a4 := a4) (a5 := a5) (a6 := a6) (a7 := a7) hO hO2 cs (T ++ [(x, c, 1 + r1, 1 + r1 + r3)]) q3 (B + 1 + 1 + 1) (fun l hl => by
      rcases List.mem_append.mp hl with hl | hl
      · exact hT l hl
      · rw [List.mem_singleton] at hl; subst hl
        exact ⟨hx, by show 1 ≤ 1 + r1; omega, by show 1 + r1 ≤ 3; omega, by show 1 + r1 ≤ 1 + r1 + r3; omega, by show 1 + r1 + r3 ≤ 1 + r1 + 2; omega⟩) (by simp only [List.length_append, List.length_singleton]; omega) ok3 (by omega) (some (.int c)) (some (.int (1 + r1))) x12 x13 x14 x15 x16
    refine ⟨T', p', y10, y11, c1, ?_, ?_, ?_⟩
    · rw [c2]; simp
    · rw [show B + 3 * ((c :: cs).length : Nat) = B + 1 + 1 + 1 + 3 * (cs.length : Nat) by simp only [List.length_cons]; omega]; exact c3
    · rw [← c4]
      have t9 : isT "list" (.loc (g.length + 1)) (MM q1 g [.lst (T.map lkD)]) = true := by simp only [isT, mg0]; rfl
      have ap : appendD (.loc (g.length + 1)) [.tup [.int x, .int c, .int (1 + r1), .int (1 + r1 + r3)]] (MM q3 g [.lst (T.map lkD)]) = .ok .non (MM q3 g [.lst ((T ++ [(x, c, 1 + r1, 1 + r1 + r3)]).map lkD)]) := by
        have hl : (T.map lkD).length < LINE := by rw [List.length_map]; show _ < 16777216; omega
        unfold appendD
        simp only [mg0, hl, if_true, ms0]
        simp [lkD]
      simp only [List.map_cons, forL, stepF, ap_gNm, List.set_cons_succ, List.set_cons_zero, b__law_network_6, ap_seq, ap_set, ap_m2, ap_c, ap_mF, ap_args1, ap_args0, mVar, List.getElem?_cons_succ, List.getElem?_cons_zero, Res.ok_bind, e1, addD_int, Res.ok_toS, RS.nx_seq, q__law_network_8, ap_drop, ap_bm, t9, if_true, ap_tup, e2, e3, ap]
/-! gaps -/
def gkey (z : Gp) : List Int := [z.1, z.2.1]
def genc (z : Gp) : List Key × D := ([.inl z.1, .inl z.2.1], .int z.2.2)
abbrev cg (G : List Gp) : Cell := .dT (G.map genc)
def GpOk (m : Int) (z : Gp) : Prop := 0 ≤ z.1 ∧ z.1 < m ∧ 0 ≤ z.2.1 ∧ z.2.1 < m ∧ z.1 ≠ z.2.1 ∧ -2 ≤ z.2.2 ∧ z.2.2 ≤ 6
def putG (G : List Gp) (w : Gp) : List Gp := if (G.any fun z => decide (gkey z = gkey w)) = true then G.map (fun z => if gkey z = gkey w then w else z) else G ++ [w]
theorem genc_key {z w : Gp} : (genc z).1 = (genc w).1 ↔ gkey z = gkey w := by
  simp only [genc, gkey, List.cons.injEq, Sum.inl.injEq, and_true]
theorem putD_genc (G : List Gp) (w : Gp) : putD (G.map genc) (genc w).1 (.int w.2.2) = (putG G w).map genc := by
  unfold putD putG
  have ha : ((G.map genc).any fun kv => decide (kv.1 = (genc w).1)) = G.any fun z => decide (gkey z = gkey w) := by
    rw [List.any_map]
    congr 1
    funext z
    simp only [Function.comp_apply, genc_key]
  rw [ha]
  split
  · rw [List.map_map, List.map_map]
    refine List.map_congr_left fun z _ => ?_
    simp only [Function.comp_apply]
    by_cases h : gkey z = gkey w
    · rw [if_pos (genc_key.mpr h), if_pos h, genc_key.mpr h]; rfl
    · rw [if_neg (fun e => h (genc_key.mp e)), if_neg h]
  · rw [List.map_append]; rfl
theorem putG_keys {G : List Gp} {w : Gp} (hd : (G.map gkey).Nodup) : ((putG G w).map gkey).Nodup := by
  unfold putG
  split
  · rename_i h
    have : (G.map fun z => if gkey z = gkey w then w else z).map gkey = G.map gkey := by
      rw [List.map_map]
      refine List.map_congr_left fun z _ => ?_
      simp only [Function.comp_apply]
      by_cases e : gkey z = gkey w
      · rw [if_pos e, e]
      · rw [if_neg e]
    rw [this]; exact hd
  · rename_i h
    rw [List.map_append, List.nodup_append]
    refine ⟨hd, by simp, ?_⟩
    intro a ha b hb e
    simp only [List.map_cons, List.map_nil, List.mem_singleton] at hb
    subst hb
    obtain ⟨z, hz, rfl⟩ := List.mem_map.mp ha
    exact h (List.any_eq_true.mpr ⟨z, hz, by simpa using e⟩)
theorem putG_mem {P : Gp → Prop} {G : List Gp} {w : Gp} (h : ∀ z ∈ G, P z) (hw : P w) : ∀ z ∈ putG G w, P z := by
  unfold putG
  split
  · intro z hz
    obtain ⟨y, hy, rfl⟩ := List.mem_map.mp hz
    by_cases e : gkey y = gkey w
    · rw [if_pos e]; exact hw
    · rw [if_neg e]; exact h y hy
  · intro z hz
    rcases List.mem_append.mp hz with hz | hz
    · exact h z hz
    · rw [List.mem_singleton] at hz; subst hz; exact hw
theorem putG_len (G : List Gp) (w : Gp) : (putG G w).length ≤ G.length + 1 := by
  unfold putG
  split
  · rw [List.length_map]; omega
  · simp

theorem okDL_ints (n : Nat) (xs : List Int) : okDL n (xs.map .int) = true := okDL_mem fun d hd => by
  obtain ⟨x, _, rfl⟩ := List.mem_map.mp hd
  cases n <;> rfl
abbrev EN (a1 a2 : Option D) (m : Nat) (a5 a6 : Option D) (ys : List Int) (a8 a9 a10 a11 x12 x13 x14 x15 x16 : Option D) : List (Option D) := [some (.loc 0), a1, a2, some (.int 3), some (.int m), a5, a6, some (.lst (ys.map .int)), a8, a9, a10, a11, x12, x13, x14, x15, x16]
/-- a moment, or an end -/
theorem moment_ok {m : Nat} {ys : List Int} {a1 a2 a5 a6 a8 a9 a10 a11 x12 x13 x14 x15 x16 : Option D} {xs : Mem} {p : Pen} (hm : 1 ≤ m) (hm2 : m ≤ 1000) (hy : ∀ y ∈ ys, 0 ≤ y ∧ y < m) (hy2 : ys.length ≤ 100) (ok : PK B p) (hB : B ≤ 999900) :
    ∃ (x : Int) (q : Pen), (0 ≤ x ∧ x < m) ∧ PK (B + 2) q ∧ mIf (mAnd (asB (m2 neD (mVar 7) (mLst mkF []))) (asB (m2 eqD (mF F__law_draw [mVar 0, mC (.int 2)]) (mC (.int 0))))) (mF F__law_pick [mVar 0, mVar 7]) (mF F__law_draw [mVar 0, mVar 4]) (EN a1 a2 m a5 a6 ys a8 a9 a10 a11 x12 x13 x14 x15 x16) (MM p g xs) = .ok (.int x) (MM q g xs) := by
  by_cases he : ys = []
  · subst he
    obtain ⟨x, q1, e1, a1', b1', ok1⟩ := draw0 (many := (m : Nat)) (rest := g ++ xs) ok (by omega) (by omega) (by omega)
    refine ⟨x, q1, ⟨a1', b1'⟩, pen_mono ok1 (by omega), ?_⟩
    have n0 : ∀ s, neD (.lst []) (.lst []) s = .ok (.bl false) s := fun s => nevL_nil_lst (xs := []) rfl
    simp only [ap_mIf, ap_and, ap_asB, ap_m2, mVar, List.getElem?_cons_succ, List.getElem?_cons_zero, Res.ok_bind, ap_lst, ap_args0, ap_mkF, List.map_nil, n0, ap_resB, Bool.false_eq_true, if_false, ap_mF, ap_args1, e1]
  · have hl : 1 ≤ ys.length := by cases ys with | nil => exact absurd rfl he | cons a b => simp
    have hem : (ys.map D.int).isEmpty = false := by cases ys with | nil => exact absurd rfl he | cons a b => rfl
    obtain ⟨r, q1, e1, a1', b1', ok1⟩ := draw0 (many := 2) (rest := g ++ xs) ok (by omega) (by decide) (by decide)
    by_cases h0 : r = 0
    · obtain ⟨x, q2, e2, hx, ok2⟩ := pick0 (rest := g ++ xs) ok1 (by omega) hl (by omega)
      refine ⟨x, q2, hy x hx, pen_mono ok2 (by omega), ?_⟩
      have hb : (r == 0) = true := by simpa using h0
      simp only [ap_mIf, ap_and, ap_asB, ap_m2, mVar, List.getElem?_cons_succ, List.getElem?_cons_zero, Res.ok_bind, ap_lst, ap_args0, ap_mkF, nevL_nil_lst (okDL_ints 11 _), hem, Bool.not_false, ap_resB, if_true, ap_mF, ap_args1, ap_c, e1, eqD_int, hb, e2]
    · obtain ⟨x, q2, e2, a2', b2', ok2⟩ := draw0 (many := (m : Nat)) (rest := g ++ xs) ok1 (by omega) (by omega) (by omega)
      refine ⟨x, q2, ⟨a2', b2'⟩, pen_mono ok2 (by omega), ?_⟩
      have hb : (r == 0) = false := by simpa using h0
      simp only [ap_mIf, ap_and, ap_asB, ap_m2, mVar, List.getElem?_cons_succ, List.getElem?_cons_zero, Res.ok_bind, ap_lst, ap_args0, ap_mkF, nevL_nil_lst (okDL_ints 11 _), hem, Bool.not_false, ap_resB, if_true, ap_mF, ap_args1, ap_c, e1, eqD_int, hb, Bool.false_eq_true, if_false, e2]
theorem loopHh {m : Nat} (hm : 1 ≤ m) (hm2 : m ≤ 1000) {ys : List Int} (hy : ∀ y ∈ ys, 0 ≤ y ∧ y < m) (hy2 : ys.length ≤ 100) {a1 a2 a5 a6 a8 a9 a10 a11 : Option D} {t : Cell} : ∀ (is : List Int) (G : List Gp) (p : Pen) (B : Int), (∀ z ∈ G, GpOk m z) → (G.map gkey).Nodup → G.length + is.length ≤ 1000 → PK B p → 0 ≤ B → B + 6 * is.length ≤ 999000 → ∀ x13 x14 x15 x16 : Option D,
    ∃ (G' : List Gp) (p' : Pen) (y13 y14 y15 y16 : Option D), (∀ z ∈ G', GpOk m z) ∧ (G'.map gkey).Nodup ∧ G'.length ≤ G.length + is.length ∧ PK (B + 6 * is.length) p' ∧
      forL (is.map .int) (stepF (gNm 13) b__law_network_10) (EN a1 a2 m a5 a6 ys a8 a9 a10 a11 (some (.loc (g.length + 1 + 1))) x13 x14 x15 x16) (MM p g [t, cg G]) =
        .nx (EN a1 a2 m a5 a6 ys a8 a9 a10 a11 (some (.loc (g.length + 1 + 1))) y13 y14 y15 y16) (MM p' g [t, cg G'])
  | [], G, p, B, hG, hd, _, ok, _, _, x13, x14, x15, x16 => ⟨G, p, x13, x14, x15, x16, hG, hd, Nat.le_refl _, by simpa using ok, rfl⟩
  | i :: is, G, p, B, hG, hd, h3, ok, hB0, hB, x13, x14, x15, x16 => by
    simp only [List.length_cons] at h3 hB
    obtain ⟨x, q1, hx, ok1, e1⟩ := moment_ok (g := g) (xs := [t, cg G]) (a1 := a1) (a2 := a2) (a5 := a5) (a6 := a6) (a8 := a8) (a9 := a9) (a10 := a10) (a11 := a11) (x12 := some (.loc (g.length + 1 + 1))) (x13 := some (.int i)) (x14 := x14) (x15 := x15) (x16 := x16) hm hm2 hy hy2 ok (by omega)
    obtain ⟨y, q2, e2, a2', b2', ok2⟩ := draw0 (many := (m : Nat)) (rest := g ++ [t, cg G]) ok1 (by omega) (by omega) (by omega)
    have s2 : VI.small64 2 = true := by decide
    have start : stepF (gNm 13) b__law_network_10 (.int i) (EN a1 a2 m a5 a6 ys a8 a9 a10 a11 (some (.loc (g.length + 1 + 1))) x13 x14 x15 x16) (MM p g [t, cg G]) = q__law_network_13 (EN a1 a2 m a5 a6 ys a8 a9 a10 a11 (some (.loc (g.length + 1 + 1))) (some (.int i)) (some (.int x)) (some (.int y)) x16) (MM q2 g [t, cg G]) := by
      have e1' := e1
      simp only [EN] at e1'
      simp only [stepF, ap_gNm, List.set_cons_succ, List.set_cons_zero, b__law_network_10, ap_seq, ap_set, e1', Res.ok_toS, RS.nx_seq, q__law_network_12, ap_mF, ap_args1, ap_args0, mVar, List.getElem?_cons_succ, List.getElem?_cons_zero, Res.ok_bind, e2]
    by_cases hxy : x = y
    · have ok2' : PK (B + 6) q2 := pen_mono ok2 (by omega)
      obtain ⟨G', p', y13, y14, y15, y16, c1, c2, c3, c4, c5⟩ := loopHh (m := m) hm hm2 hy hy2 (a1 := a1) (a2 := a2) (a5 := a5) (a6 := a6) (a8 := a8) (a9 := a9) (a10 := a10) (a11 := a11) (t := t) is G q2 (B + 6) hG hd (by omega) ok2' (by omega) (by omega) (some (.int i)) (some (.int x)) (some (.int y)) x16
      refine ⟨G', p', y13, y14, y15, y16, c1, c2, by simp only [List.length_cons]; omega, ?_, ?_⟩
      · rw [show B + 6 * ((i :: is).length : Nat) = B + 6 + 6 * (is.length : Nat) by simp only [List.length_cons]; omega]; exact c4
      · rw [← c5]
        have hb : (x == y) = true := by simpa using hxy
        rw [List.map_cons, forL, start]
        simp only [q__law_network_13, ap_if, ap_asB, ap_m2, mVar, List.getElem?_cons_succ, List.getElem?_cons_zero, Res.ok_bind, neD_int, hb, Bool.not_true, ap_resB, Bool.false_eq_true, if_false, ap_nil, Res.ok_toS]
    · obtain ⟨f, q3, e3, a3', b3', ok3⟩ := draw0 (many := 2) (rest := g ++ [t, cg G]) ok2 (by omega) (by decide) (by decide)
      obtain ⟨r, q4, e4, a4', b4', ok4⟩ := draw0 (many := 8) (rest := g ++ [t, cg G]) ok3 (by omega) (by decide) (by decide)
      obtain ⟨s, q5, e5, hs, ok5⟩ := pick0 (rest := g ++ [t, cg G]) (xs := [1, 1, 2]) ok4 (by omega) (by decide) (by decide)
      have e5' : F__law_pick [.loc 0, .lst [.int 1, .int 1, .int 2]] (MM q4 g [t, cg G]) = .ok (.int s) (MM q5 g [t, cg G]) := e5
      have hs2 : 1 ≤ s ∧ s ≤ 2 := by
        simp only [List.mem_cons, List.not_mem_nil, or_false] at hs
        omega
      obtain ⟨w, hwd, hwo⟩ : ∃ w : Gp, (mIf (asB (m2 eqD (mF F__law_draw [mVar 0, mC (.int 2)]) (mC (.int 0)))) (mTup [mVar 14, mVar 15]) (mTup [mVar 15, mVar 14])) (EN a1 a2 m a5 a6 ys a8 a9 a10 a11 (some (.loc (g.length + 1 + 1))) (some (.int i)) (some (.int x)) (some (.int y)) x16) (MM q2 g [t, cg G]) = .ok (.tup [.int w.1, .int w.2.1]) (MM q3 g [t, cg G]) ∧ w.2.2 = r - s ∧ GpOk m w := by
        by_cases h0 : f = 0
        · refine ⟨(x, y, r - s), ?_, rfl, ⟨hx.1, hx.2, a2', b2', hxy, by show -2 ≤ r - s; omega, by show r - s ≤ 6; omega⟩⟩
          have hb : (f == 0) = true := by simpa using h0
          simp only [ap_mIf, ap_asB, ap_m2, ap_mF, ap_args1, ap_args0, ap_c, mVar, List.getElem?_cons_succ, List.getElem?_cons_zero, Res.ok_bind, e3, eqD_int, hb, ap_resB, if_true, ap_tup]
        · refine ⟨(y, x, r - s), ?_, rfl, ⟨a2', b2', hx.1, hx.2, fun e => hxy e.symm, by show -2 ≤ r - s; omega, by show r - s ≤ 6; omega⟩⟩
          have hb : (f == 0) = false := by simpa using h0
          simp only [ap_mIf, ap_asB, ap_m2, ap_mF, ap_args1, ap_args0, ap_c, mVar, List.getElem?_cons_succ, List.getElem?_cons_zero, Res.ok_bind, e3, eqD_int, hb, ap_resB, Bool.false_eq_true, if_false, ap_tup]
      obtain ⟨hwv, hwo⟩ := hwo
      obtain ⟨G', p', y13, y14, y15, y16, c1, c2, c3, c4, c5⟩ := loopHh (m := m) hm hm2 hy hy2 (a1 := a1) (a2 := a2) (a5 := a5) (a6 := a6) (a8 := a8) (a9 := a9) (a10 := a10) (a11 := a11) (t := t) is (putG G w) q5 (B + 6) (putG_mem hG hwo) (putG_keys hd) (by have := putG_len G w; omega) (pen_mono ok5 (by omega)) (by omega) (by omega) (some (.int i)) (some (.int x)) (some (.int y)) (some (.tup [.int w.1, .int w.2.1]))
      refine ⟨G', p', y13, y14, y15, y16, c1, c2, by have := putG_len G w; simp only [List.length_cons]; omega, ?_, ?_⟩
      · rw [show B + 6 * ((i :: is).length : Nat) = B + 6 + 6 * (is.length : Nat) by simp only [List.length_cons]; omega]; exact c4
      · rw [← c5]
        have hb : (x == y) = false := by simpa using hxy
        have m22 : mulD mkF (.int 2) (.int 3) = fun st => .ok (.int 6) st := by funext st; exact mulD_int (.inl s2)
        have sd : setD (.loc (g.length + 1 + 1)) (.tup [.int w.1, .int w.2.1]) (.int (r - s)) (MM q5 g [t, cg G]) = some (MM q5 g [t, cg (putG G w)]) := by
          have hl : (G.map genc).length < LINE := by rw [List.length_map]; show _ < 16777216; omega
          have hp := putD_genc G w
          rw [hwv] at hp
          simp only [genc] at hp
          unfold setD
          simp only [mg1, hl, if_true, keysD, keyD, Option.map_some, ms1]
          rw [hp]
        have hwd' := hwd
        simp only [EN] at hwd'
        rw [List.map_cons, forL, start]
        simp only [q__law_network_13, ap_if, ap_asB, ap_m2, mVar, List.getElem?_cons_succ, List.getElem?_cons_zero, Res.ok_bind, neD_int, hb, Bool.not_false, ap_resB, if_true, Res.ok_toS, ap_seq, ap_set, hwd', RS.nx_seq, List.set_cons_succ, List.set_cons_zero, q__law_network_15, ap_asg, ap_mF, ap_args1, ap_args0, ap_c, m22, addD_int, Int.reduceAdd, e4, ap_lst, ap_mkF, e5', subD_int, ap_gSub, sd]
end
end G15
set_option maxHeartbeats 4000000
namespace G15
open PySem PySem.Spec PyProof.Rows L2 VI
structure Small (N : Net) : Prop where
  m3 : 3 ≤ N.m
  m5 : N.m ≤ 5
  l2 : N.ls.length + 2 ≤ N.m
theorem lex_lt {a b c d : Int} : HT.lexLt [a, b] [c, d] = true ↔ [a, b] < [c, d] := by
  simp only [HT.lexLt_cons, HT.lexLt_nil_nil, List.cons_lt_cons_iff]
  have hn : ¬ ([] : List Int) < [] := List.lt_irrefl _
  by_cases h : a = c
  · subst h
    by_cases h2 : b = d
    · subst h2; simp [hn]
    · simp [h2, hn]
  · simp [h, hn]
theorem lt_of_le_nodup : ∀ {l : List (List Int)}, l.Pairwise (· ≤ ·) → l.Nodup → l.Pairwise (· < ·)
  | [], _, _ => List.Pairwise.nil
  | a :: l, h, hd => by
    rw [List.pairwise_cons] at h ⊢
    rw [List.nodup_cons] at hd
    refine ⟨fun b hb => ?_, lt_of_le_nodup h.2 hd.2⟩
    rcases List.le_iff_lt_or_eq.mp (h.1 b hb) with e | e
    · exact e
    · subst e; exact absurd hb hd.1
theorem lt_of_le_nodupI : ∀ {l : List Int}, l.Pairwise (· ≤ ·) → l.Nodup → l.Pairwise (· < ·)
  | [], _, _ => List.Pairwise.nil
  | a :: l, h, hd => by
    rw [List.pairwise_cons] at h ⊢
    rw [List.nodup_cons] at hd
    refine ⟨fun b hb => ?_, lt_of_le_nodupI h.2 hd.2⟩
    have := h.1 b hb
    have : a ≠ b := fun e => hd.1 (e ▸ hb)
    omega
def gle (a b : Gp) : Bool := decide (gkey a ≤ gkey b)
theorem gsort (G : List Gp) : (G.mergeSort gle).Perm G ∧ ((G.mergeSort gle).map gkey).Pairwise (· ≤ ·) := by
  refine ⟨List.mergeSort_perm _ _, ?_⟩
  rw [List.pairwise_map]
  have := List.pairwise_mergeSort (le := gle) (fun a b c h1 h2 => by
    simp only [gle, decide_eq_true_eq] at *
    exact List.le_trans h1 h2) (fun a b => by
    simp only [gle, Bool.or_eq_true, decide_eq_true_eq]
    exact List.le_total _ _) G
  exact this.imp fun h => by simpa [gle] using h
theorem isort (E : List Int) : (E.mergeSort fun a b => decide (a ≤ b)).Perm E ∧ (E.mergeSort fun a b => decide (a ≤ b)).Pairwise (· ≤ ·) := by
  refine ⟨List.mergeSort_perm _ _, ?_⟩
  have := List.pairwise_mergeSort (le := fun a b : Int => decide (a ≤ b)) (fun a b c h1 h2 => by
    simp only [decide_eq_true_eq] at *; omega) (fun a b => by
    simp only [Bool.or_eq_true, decide_eq_true_eq]; omega) E
  exact this.imp fun h => by simpa using h
theorem valD_genc : ∀ {G : List Gp} {z : Gp}, (G.map gkey).Nodup → z ∈ G → valD (G.map genc) [.inl z.1, .inl z.2.1] = some (.int z.2.2)
  | [], _, _, h => by cases h
  | y :: G, z, hd, h => by
    rw [List.map_cons, List.nodup_cons] at hd
    unfold valD
    rw [List.map_cons, List.find?_cons]
    rcases List.mem_cons.mp h with rfl | h
    · have : decide ((genc z).1 = [Sum.inl z.1, Sum.inl z.2.1]) = true := by simp [genc]
      rw [this]; rfl
    · have hn : gkey y ≠ gkey z := fun e => hd.1 (List.mem_map.mpr ⟨z, h, e.symm⟩)
      have : decide ((genc y).1 = [Sum.inl z.1, Sum.inl z.2.1]) = false := by
        rw [decide_eq_false_iff_not]
        intro e
        exact hn (genc_key.mp e)
      rw [this]
      exact valD_genc hd.2 h
section
variable {B : Int} {g : Mem}
theorem rgF_eq {ρ : VI.Env} {st : Mem} {m n : ME} {j : Int} (h1 : m ρ st = .ok (.int 1) st) (h2 : n ρ st = .ok (.int j) st) (b2 : 0 ≤ j ∧ j ≤ 1000) : mLRg2 mkF m n ρ st = .ok (.lst ((Pl.irange 1 j).map .int)) st := by
  have hl : (j - 1).toNat ≤ LINE := by show _ ≤ 16777216; omega
  unfold mLRg2 rgD
  simp only [h1, h2, Res.ok_bind, small_big (show (-1000000 : Int) ≤ 1 by decide) (show (1 : Int) ≤ 1000000 by decide), small_big (show -1000000 ≤ j by omega) (show j ≤ 1000000 by omega), hl, and_self, if_true, rangeL_eq, mkF]
theorem network_ok {p : Pen} (hg : Flat g) (ok : PK B p) (hB0 : 0 ≤ B) (hB : B ≤ 800000) :
    ∃ N p', N.Ok ∧ Small N ∧ PK (B + 60) p' ∧ F__law_network [.loc 0, .int 5, .int 2, .int 3] (penC p :: g) = .ok N.d (penC p' :: g) := by
  -- how many moments
  obtain ⟨r, q1, e1, r0, r1, ok1⟩ := draw0 (many := 3) (rest := g) ok (by omega) (by decide) (by decide)
  obtain ⟨m, hm⟩ : ∃ m : Nat, 3 + r = (m : Int) := ⟨(3 + r).toNat, by omega⟩
  have hm3 : 3 ≤ m := by omega
  have hm5 : m ≤ 5 := by omega
  have lm : (Pl.irange 1 (m : Int)).length = m - 1 := by rw [Pl.length_irange]; omega
  -- the order
  obtain ⟨Y, q2, pY, ok2, e2⟩ := shuffled_ok (X := Pl.irange 1 (m : Int)) hg ok1 (by omega) (by rw [lm]; omega)
  rw [lm] at ok2
  have lY : Y.length = m - 1 := by rw [pY.length_eq, lm]
  obtain ⟨r2, q3, e3, r20, r21, ok3⟩ := draw0 (many := 3) (rest := g) ok2 (by omega) (by decide) (by decide)
  obtain ⟨k, hk⟩ : ∃ k : Int, (if (m : Int) - 2 < r2 then (m : Int) - 2 else r2) = k := ⟨_, rfl⟩
  have hk0 : 0 ≤ k := by rw [← hk]; split <;> omega
  have hk2 : k ≤ 2 := by rw [← hk]; split <;> omega
  have hkm : k ≤ (m : Int) - 2 := by rw [← hk]; split <;> omega
  -- the ends
  obtain ⟨E, hE⟩ : ∃ E, E = Y.take k.toNat := ⟨_, rfl⟩
  have lE : E.length = k.toNat := by rw [hE, List.length_take, lY]; omega
  have hEm : ∀ x ∈ E, 1 ≤ x ∧ x < m := fun x hx => Pl.mem_irange.mp (pY.mem_iff.mp (by rw [hE] at hx; exact List.mem_of_mem_take hx))
  have hEd : E.Nodup := by
    have h1 : Y.Nodup := pY.nodup_iff.mpr (irange_nd _ _)
    rw [hE]; exact h1.sublist (List.take_sublist _ _)
  obtain ⟨ysP, ysS⟩ := isort E
  obtain ⟨ys, hys⟩ : ∃ ys, ys = E.mergeSort fun a b => decide (a ≤ b) := ⟨_, rfl⟩
  rw [← hys] at ysP ysS
  have ysD : ys.Pairwise (· < ·) := lt_of_le_nodupI ysS (ysP.nodup_iff.mpr hEd)
  have lys : ys.length = k.toNat := by rw [ysP.length_eq, lE]
  have hym : ∀ y ∈ ys, 1 ≤ y ∧ y < m := fun y hy => hEm y (ysP.mem_iff.mp hy)
  -- ours
  obtain ⟨O, hO⟩ : ∃ O, O = (Net.all ⟨m, [], []⟩).filter fun i => !decide (i ∈ ys) := ⟨_, rfl⟩
  have memO : ∀ x, x ∈ O ↔ (0 ≤ x ∧ x < m) ∧ x ∉ ys := fun x => by
    rw [hO, List.mem_filter, mem_all]; simp
  have O1 : 1 ≤ O.length := by
    have : (0 : Int) ∈ O := (memO 0).mpr ⟨⟨by omega, by omega⟩, fun h => by have := hym 0 h; omega⟩
    exact List.length_pos_of_mem this
  have O2 : O.length ≤ 1000 := by
    have h1 : O.length ≤ (Net.all ⟨m, [], []⟩).length := by rw [hO]; exact List.length_filter_le _ _
    have h2 : (Net.all ⟨m, [], []⟩).length = m := by simp [Net.all]
    omega
  -- links
  obtain ⟨T, q4, y10, y11, hT, cT, ok4, e4⟩ := loopKk (g := g) (a1 := some (.int 5)) (a2 := some (.int 2)) (a4 := some (.int m)) (a5 := some (.lst (Y.map .int))) (a6 := some (.int k)) (a7 := some (.lst (ys.map .int))) O1 O2 ys [] q3 (B + 1 + ((m - 1 : Nat) : Int) + 1) (by simp) (by simp only [List.length_nil]; omega) ok3 (by omega) none none none none none none none
  simp only [List.map_nil, List.nil_append] at cT e4
  have lT : T.length = ys.length := by rw [← cT, List.length_map]
  -- gaps
  obtain ⟨r5, q5, e5, r50, r51, ok5⟩ := draw0 (many := 5) (rest := g ++ [.lst (T.map lkD), cg []]) ok4 (by omega) (by decide) (by decide)
  have lr : (Pl.irange 0 (2 + r5)).length = (2 + r5).toNat := by rw [Pl.length_irange]; omega
  obtain ⟨G, q6, z13, z14, z15, z16, hG, dG, lG, ok6, e6⟩ := loopHh (g := g) (m := m) (by omega) (by omega) (ys := ys) (fun y hy => by have := hym y hy; omega) (by omega) (a1 := some (.int 5)) (a2 := some (.int 2)) (a5 := some (.lst (Y.map .int))) (a6 := some (.int k)) (a8 := some (.lst (O.map .int))) (a9 := some (.loc (g.length + 1))) (a10 := y10) (a11 := y11) (t := .lst (T.map lkD)) (Pl.irange 0 (2 + r5)) [] q5 (B + 1 + ((m - 1 : Nat) : Int) + 1 + 3 * (ys.length : Nat) + 1) (by simp) (by simp) (by rw [lr]; simp; omega) ok5 (by omega) (by rw [lr]; omega) none none none none
  rw [List.length_nil, Nat.zero_add, lr] at lG
  obtain ⟨gP, gS⟩ := gsort G
  obtain ⟨H, hH⟩ : ∃ H, H = G.mergeSort gle := ⟨_, rfl⟩
  rw [← hH] at gP gS
  have dH : (H.map gkey).Nodup := (gP.map gkey).nodup_iff.mpr dG
  have sH : (H.map gkey).Pairwise (· < ·) := lt_of_le_nodup gS dH
  have lH : H.length = G.length := gP.length_eq
  have mH : ∀ z ∈ H, GpOk m z := fun z hz => hG z (gP.mem_iff.mp hz)
  -- the network
  obtain ⟨N, hN⟩ : ∃ N : Net, N = ⟨m, T, H⟩ := ⟨_, rfl⟩
  have hends : N.ends = ys := by rw [hN]; exact cT
  have cys : ∀ l ∈ T, l.2.1 ∈ ys := fun l hl => by
    rw [← cT]; exact List.mem_map.mpr ⟨l, hl, rfl⟩
  have okN : N.Ok := by
    subst hN
    refine ⟨by show 2 ≤ m; omega, by show m ≤ 6; omega, by show T.length ≤ 3; omega, fun l hl => ?_, by rw [hends]; exact ysD, fun l hl => ?_, by show H.length ≤ 15; omega, fun z hz => ?_, ?_⟩
    · obtain ⟨a, b, c, d, e⟩ := hT l hl
      have h1 := (memO l.1).mp a
      have h2 := hym _ (cys l hl)
      refine ⟨h1.1.1, h1.1.2, by omega, h2.2, fun e => h1.2 (by rw [e]; exact cys l hl), b, d, by omega⟩
    · rw [hends]
      intro h
      exact ((memO l.1).mp (hT l hl).1).2 h
    · obtain ⟨a, b, c, d, e, f, h⟩ := mH z hz
      exact ⟨a, b, c, d, e, by omega, by omega⟩
    · rw [List.pairwise_map] at sH
      exact sH.imp fun h => lex_lt.mpr h
  have smN : Small N := by
    subst hN
    exact ⟨hm3, hm5, by show T.length + 2 ≤ m; omega⟩
  refine ⟨N, q6, okN, smN, pen_mono ok6 (by rw [lr]; omega), ?_⟩
  -- the run
  have cE : cutD (Y.map D.int) none (some k) = E.map .int := by
    have := cutTo (Y.map D.int) k.toNat
    rw [show ((k.toNat : Nat) : Int) = k by omega] at this
    rw [this, hE, List.map_take]
  have srE : ∀ s, sortedD (.lst (E.map .int)) s = .ok (.lst (ys.map .int)) s := fun s => by
    unfold sortedD
    simp only [srcD, seqD, srtOk_ints, if_true]
    rw [sortL_ints ysP.symm ysS]
  have lcO : ∀ x9 x10 x11 x12 x13 x15 x16 : Option D, mLC finF (mRng1 (mVar 4)) (gNm 14) (asB (m2 notinD (mVar 14) (mVar 7))) (mVar 14) [14] [some (.loc 0), some (.int 5), some (.int 2), some (.int 3), some (.int m), some (.lst (Y.map .int)), some (.int k), some (.lst (ys.map .int)), none, x9, x10, x11, x12, x13, none, x15, x16] (MM q3 g []) = .ok (.lst (O.map .int)) (MM q3 g []) := fun x9 x10 x11 x12 x13 x15 x16 => by
    have ha : Net.all ⟨m, [], []⟩ = Pl.irange 0 m := by
      unfold Net.all Pl.irange
      simp
    rw [lc_pureL (xs := Net.all ⟨m, [], []⟩) (g0 := D.int) (F := fun i => if (!decide (i ∈ ys)) = true then some (.int i) else none) ?_ (fun x hx acc => ?_) (by rw [ha, Pl.length_irange]; omega) (fun x _ y hy => by
      split at hy
      · cases hy; rfl
      · cases hy), filterMap_if, hO]
    · rw [ha]; exact rng1_eq rfl (by omega)
    · simp only [stepL, wipeE, ap_gNm, ap_asB, ap_m2, mVar, List.set_cons_succ, List.set_cons_zero, List.getElem?_cons_succ, List.getElem?_cons_zero, Res.ok_bind, notinD_lst, ap_resB, Res.noX_ok]
      by_cases h : x ∈ ys <;> simp [h]
  have srG : sortedD (.loc (g.length + 1 + 1)) (MM q6 g [.lst (T.map lkD), cg G]) = .ok (.lst (H.map fun z => il (gkey z))) (MM q6 g [.lst (T.map lkD), cg G]) := by
    unfold sortedD
    simp only [srcD, mg1, List.map_map]
    have e : (G.map ((fun p : List Key × D => D.tup (p.1.map kDd)) ∘ genc)) = (G.map gkey).map il := by
      rw [List.map_map]; rfl
    rw [e, srtOk_ils (fun x hx => by obtain ⟨z, _, rfl⟩ := List.mem_map.mp hx; exact fun h => nomatch h), if_pos rfl, sortL_ils (gP.map gkey).symm gS, List.map_map]
    rfl
  have lcG : ∀ z13 z14 z15 z16 : Option D, mLC finF (mIt (mF (f1 sortedD) [mVar 12])) (gNm 16) (mYes) (m2 addD (mVar 16) (mTup [m2 ixD (mVar 12) (mVar 16)])) [16] [some (.loc 0), some (.int 5), some (.int 2), some (.int 3), some (.int m), some (.lst (Y.map .int)), some (.int k), some (.lst (ys.map .int)), some (.lst (O.map .int)), some (.loc (g.length + 1)), y10, y11, some (.loc (g.length + 1 + 1)), z13, z14, z15, z16] (MM q6 g [.lst (T.map lkD), cg G]) =
      .ok (.lst (H.map gpD)) (MM q6 g [.lst (T.map lkD), cg G]) := fun z13 z14 z15 z16 => by
    rw [lc_pureL (xs := H) (g0 := fun z => il (gkey z)) (F := fun z => some (gpD z)) ?_ (fun z hz acc => ?_) (by omega) (fun z _ y hy => by cases hy; rfl), filterMap_some]
    · simp only [ap_it, ap_mF, ap_args1, ap_args0, mVar, List.getElem?_cons_succ, List.getElem?_cons_zero, Res.ok_bind, ap_f1, srG, frz_lst]
    · have hs : (MM q6 g [.lst (T.map lkD), cg G] ++ [.lst acc])[g.length + 1 + 1]? = some (cg G) := by rw [mm_push]; exact mg1
      have ix : ixD (.loc (g.length + 1 + 1)) (il (gkey z)) (MM q6 g [.lst (T.map lkD), cg G] ++ [.lst acc]) = .ok (.int z.2.2) (MM q6 g [.lst (T.map lkD), cg G] ++ [.lst acc]) := by
        unfold ixD
        simp only [seqD, hs, getD', gkey, List.map_cons, List.map_nil, keysD, keyD, Option.map_some, valD_genc dG (gP.mem_iff.mp hz)]
      simp only [stepL, wipeE, ap_gNm, ap_yes, ap_m2, ap_tup, ap_args1, ap_args0, mVar, List.set_cons_succ, List.set_cons_zero, List.getElem?_cons_succ, List.getElem?_cons_zero, Res.ok_bind, ix, Res.noX_ok, if_true]
      rfl
  have tT : tupleD (.loc (g.length + 1)) (MM q6 g [.lst (T.map lkD), cg G]) = .ok (.tup (T.map lkD)) (MM q6 g [.lst (T.map lkD), cg G]) := by
    unfold tupleD
    simp only [lstD, mg0]
  have run : m__law_network [some (.loc 0), some (.int 5), some (.int 2), some (.int 3), none, none, none, none, none, none, none, none, none, none, none, none, none] (penC p :: g) = .rt N.d (MM q6 g [.lst (T.map lkD), cg G]) := by
    have g3 : penC q3 :: g = MM q3 g [] := by simp
    have L1 : (MM q4 g [.lst (T.map lkD)]).length = g.length + 1 + 1 := mm_len
    have k1 : mkN [] (MM q3 g []) = .ok (.loc (g.length + 1)) (MM q3 g [.lst []]) := by
      unfold mkN; rw [mm_len, mm_push]; rfl
    have k4 : ∀ ρ, mNewT ρ (MM q4 g [.lst (T.map lkD)]) = .ok (.loc (g.length + 1 + 1)) (MM q4 g [.lst (T.map lkD), cg []]) := fun ρ => by
      unfold mNewT; rw [L1, mm_push]; rfl
    have rgo : ∀ (ρ : List (Option D)) s, mLRg2 mkF (mC (.int 1)) (mVar 4) (some (.loc 0) :: some (.int 5) :: some (.int 2) :: some (.int 3) :: some (.int m) :: ρ) s = .ok (.lst ((Pl.irange 1 (m : Int)).map .int)) s := fun ρ s => rgF_eq rfl rfl (by omega)
    have f2' : ∀ (ρ : List (Option D)), mRng1 (m2 addD (mC (.int 2)) (mF F__law_draw [mVar 0, mC (.int 5)])) (some (.loc 0) :: ρ) (MM q4 g [.lst (T.map lkD), cg []]) = .ok ((Pl.irange 0 (2 + r5)).map .int) (MM q5 g [.lst (T.map lkD), cg []]) := fun ρ => by
      have e : (m2 addD (mC (.int 2)) (mF F__law_draw [mVar 0, mC (.int 5)])) (some (.loc 0) :: ρ) (MM q4 g [.lst (T.map lkD), cg []]) = .ok (.int (2 + r5)) (MM q5 g [.lst (T.map lkD), cg []]) := by
        simp only [ap_mF, ap_args1, ap_args0, ap_m2, ap_c, mVar, List.getElem?_cons_zero, Res.ok_bind, e5, addD_int]
      unfold mRng1
      simp only [e, Res.ok_bind, small_big (show -1000000 ≤ 2 + r5 by omega) (show 2 + r5 ≤ 1000000 by omega), if_true]
      have := rangeL_eq 0 (2 + r5)
      rw [show 2 + r5 - 0 = 2 + r5 by omega] at this
      rw [this]
    have fin : q__law_network_16 [some (.loc 0), some (.int 5), some (.int 2), some (.int 3), some (.int m), some (.lst (Y.map .int)), some (.int k), some (.lst (ys.map .int)), some (.lst (O.map .int)), some (.loc (g.length + 1)), y10, y11, some (.loc (g.length + 1 + 1)), z13, z14, z15, z16] (MM q6 g [.lst (T.map lkD), cg G]) = .rt N.d (MM q6 g [.lst (T.map lkD), cg G]) := by
      simp only [q__law_network_16, ap_ret, ap_tup, ap_args1, ap_args0, mVar, List.getElem?_cons_succ, List.getElem?_cons_zero, Res.ok_bind, ap_mF, ap_f1, tT, lcG, Res.ok_toS]
      rw [hN]
      rfl
    have e6' := e6
    simp only [EN] at e6'
    have a1 : m__law_network [some (.loc 0), some (.int 5), some (.int 2), some (.int 3), none, none, none, none, none, none, none, none, none, none, none, none, none] (penC p :: g) = q__law_network_5 [some (.loc 0), some (.int 5), some (.int 2), some (.int 3), some (.int m), some (.lst (Y.map .int)), some (.int k), some (.lst (ys.map .int)), none, none, none, none, none, none, none, none, none] (penC q3 :: g) := by
      simp only [m__law_network, ap_seq, ap_set, ap_m2, ap_c, ap_mF, ap_args1, ap_args0, mVar, List.getElem?_cons_succ, List.getElem?_cons_zero, Res.ok_bind, subD_int, Int.reduceSub, e1, addD_int, Int.reduceAdd, hm, Res.ok_toS, RS.nx_seq, List.set_cons_succ, List.set_cons_zero, q__law_network_2, rgo, e2, q__law_network_3, e3, ap_f2, min2D, hk, q__law_network_4, ap_slice, ap_nopart, ap_part, resI_int, slice_lst, mkF, cE, ap_f1, srE]
    rw [a1, g3]
    simp only [q__law_network_5, ap_seq, ap_par, lcO, Res.ok_toS, ap_lst, ap_args0, Res.ok_bind, k1, List.set_cons_succ, List.set_cons_zero, RS.nx_seq, q__law_network_6, sFor, ap_it, mVar, List.getElem?_cons_succ, List.getElem?_cons_zero, frz_lst, e4, q__law_network_9, ap_set, k4, q__law_network_10, f2', e6', fin]
  have hbl : belowD (penC p :: g).length N.d = true := by
    have h1 : ∀ n, belowL n (N.ls.map lkD) = true := fun n => belowL_mem fun d hd => by
      obtain ⟨l, _, rfl⟩ := List.mem_map.mp hd; rfl
    have h2 : ∀ n, belowL n (N.gs.map gpD) = true := fun n => belowL_mem fun d hd => by
      obtain ⟨l, _, rfl⟩ := List.mem_map.mp hd; rfl
    simp only [Net.d, belowD, belowL, h1, h2, Bool.and_self]
  show dropR (penC p :: g) (endS (m__law_network [some (.loc 0), some (.int 5), some (.int 2), some (.int 3), none, none, none, none, none, none, none, none, none, none, none, none, none] (penC p :: g))) = _
  rw [run]
  simp only [dropR, endS_rt, hbl, clean_mm hg, Bool.and_self, if_true]
  simp
end
end G15
set_option maxHeartbeats 4000000
namespace VI
open PySem PySem.Spec PyProof.Rows L2
theorem cutFrom (xs : List D) (k : Nat) : cutD xs (some (k : Int)) none = xs.drop k := by
  unfold cutD
  have e : HT.sIx xs.length 0 (some (k : Int)) = min k xs.length := HT.sIx_nat _ _ k
  rw [e, HT.sIx_none]
  by_cases h : k ≤ xs.length
  · rw [Nat.min_eq_left h, List.take_of_length_le (by simp)]
  · rw [Nat.min_eq_right (by omega), List.drop_eq_nil_of_le (Nat.le_refl _), List.drop_eq_nil_of_le (by omega)]
    simp
theorem add_tup {xs ys : List D} {st : Mem} (h : xs.length + ys.length ≤ 16777216) : addD (.tup xs) (.tup ys) st = .ok (.tup (xs ++ ys)) st := by
  have h' : xs.length + ys.length ≤ LINE := h
  unfold addD
  simp only [h', if_true]
theorem rep_tup {i : Int} {k : Nat} {st : Mem} (h2 : 2 ≤ k) (hk : k ≤ 1000) : mulD mkF (.tup [.int i]) (.int (k : Nat)) st = .ok (il (List.replicate k i)) st := by
  have e : (List.replicate k [D.int i]).flatten = (List.replicate k i).map .int := by
    clear h2 hk
    induction k with
    | zero => rfl
    | succ k ih => rw [List.replicate_succ, List.flatten_cons, ih, List.replicate_succ]; rfl
  unfold mulD repD
  simp only
  rw [if_pos ⟨rfl, by omega, by omega, by simp⟩, Int.toNat_natCast, e]
end VI
namespace G15
open PySem PySem.Spec PyProof.Rows L2 VI
section
variable {B : Int} {g : Mem} {N : Net} {st : Mem}
theorem flat_app {g h : Mem} (hg : Flat g) (hh : Flat h) : Flat (g ++ h) := fun c hc => by
  rcases List.mem_append.mp hc with hc | hc
  · exact hg c hc
  · exact hh c hc
theorem flat_rows {rs : List Rw} : Flat [.lst ((N.all.map (base N)).map gp3), .dT (encT rs)] := fun c hc => by
  simp only [List.mem_cons, List.not_mem_nil, or_false] at hc
  rcases hc with rfl | rfl
  · intro n; exact gp3_below _ _
  · intro n
    show belowL n ((encT rs).map (·.2)) = true
    exact belowL_mem fun d hd => by
      obtain ⟨kv, hkv, rfl⟩ := List.mem_map.mp hd
      obtain ⟨r, _, rfl⟩ := List.mem_map.mp hkv
      rfl
theorem filt_two {α : Type} (p : α → Bool) : ∀ l : List α, (l.filter p).length + (l.filter fun a => !p a).length = l.length
  | [] => rfl
  | a :: l => by
    have ih := filt_two p l
    rw [List.filter_cons, List.filter_cons]
    cases p a <;> simp <;> omega
theorem ours_two (ok : N.Ok) (hl : N.ls.length + 2 ≤ N.m) : 2 ≤ N.ours.length := by
  have h1 : N.all.length = N.m := by simp [Net.all]
  have h2 := filt_two (fun i => decide (i ∈ N.ends)) N.all
  have nd : N.all.Nodup := by
    unfold Net.all
    exact (List.pairwise_map.mpr (List.pairwise_lt_range.imp fun h e => by omega))
  have h3 : (N.all.filter fun i => decide (i ∈ N.ends)).length ≤ N.ends.length :=
    nodup_le (List.Pairwise.filter _ nd) (ok.asc.imp fun h e => by omega) fun x hx => by simpa using (List.mem_filter.mp hx).2
  have h4 : N.ends.length = N.ls.length := by simp [Net.ends]
  unfold Net.ours
  omega
/-! a list drawn -/
theorem lc_pen {gg : MG} {t : MB} {m : ME} {vs : List Nat} {ρ : VI.Env} {P : D → Prop} {X : List D} {p p1 : Pen} {mi : ML} (hg : Flat g) (hP : ∀ d, P d → ∀ n, belowD n d = true)
    (hs : ∀ x ∈ X, ∀ (B' : Int) q acc, PK B' q → B' ≤ 900000 → ∃ d q', stepL gg t m vs ρ x (penC q :: (g ++ [.lst acc])) = .ok (some d) (penC q' :: (g ++ [.lst acc])) ∧ P d ∧ PK (B' + 1) q')
    (hi : mi ρ (penC p :: g) = .ok X (penC p1 :: g)) (pk : PK B p1) (hB : B ≤ 800000) (hl : X.length ≤ 100) :
    ∃ ds q, ds.length = X.length ∧ (∀ d ∈ ds, P d) ∧ PK (B + X.length) q ∧ mLC finF mi gg t m vs ρ (penC p :: g) = .ok (.lst ds) (penC q :: g) := by
  have key : ∀ (Y : List D) (acc : List D) (q : Pen) (B : Int), (∀ x ∈ Y, x ∈ X) → PK B q → B + Y.length ≤ 900000 → acc.length + Y.length ≤ 1000 → ∃ ds q', ds.length = Y.length ∧ (∀ d ∈ ds, P d) ∧ PK (B + Y.length) q' ∧
      lcL (g.length + 1) Y (stepL gg t m vs ρ) (penC q :: (g ++ [.lst acc])) = .ok () (penC q' :: (g ++ [.lst (acc ++ ds)])) := by
    intro Y
    induction Y with
    | nil => intro acc q B _ pk _ _; exact ⟨[], q, rfl, by simp, by simpa using pk, by simp [lcL]⟩
    | cons x Y ih =>
      intro acc q B hm pk hB ha
      simp only [List.length_cons] at hB ha
      obtain ⟨d, q1, e1, hd, pk1⟩ := hs x (hm x List.mem_cons_self) B q acc pk (by omega)
      obtain ⟨ds, q2, l1, l2, l3, l4⟩ := ih (acc ++ [d]) q1 (B + 1) (fun y hy => hm y (List.mem_cons_of_mem _ hy)) pk1 (by omega) (by simp only [List.length_append, List.length_singleton]; omega)
      refine ⟨d :: ds, q2, by simp [l1], fun y hy => ?_, by rw [show B + ((x :: Y).length : Nat) = B + 1 + (Y.length : Nat) by simp only [List.length_cons]; omega]; exact l3, ?_⟩
      · rcases List.mem_cons.mp hy with rfl | hy
        · exact hd
        · exact l2 y hy
      · have hL : acc.length < LINE := by show _ < 16777216; omega
        have at1 : (penC q1 :: (g ++ [Cell.lst acc]))[g.length + 1]? = some (.lst acc) := mg0 (p := q1) (g := g) (xs := [])
        have set1 : (penC q1 :: (g ++ [Cell.lst acc])).set (g.length + 1) (.lst (acc ++ [d])) = penC q1 :: (g ++ [.lst (acc ++ [d])]) := ms0 (p := q1) (g := g) (xs := [])
        simp only [lcL, e1, Res.ok_bind, pushL, at1, if_pos hL, set1, l4]
        simp
  obtain ⟨ds, q, l1, l2, l3, l4⟩ := key X [] p1 B (fun _ h => h) pk (by omega) (by simp; omega)
  refine ⟨ds, q, l1, l2, l3, ?_⟩
  have hb : belowL (penC p1 :: g).length ds = true := belowL_mem fun d hd => hP d (l2 d hd) _
  have e0 : (penC p1 :: g) ++ [Cell.lst []] = penC p1 :: (g ++ [.lst []]) := rfl
  have ll : (penC p1 :: g).length = g.length + 1 := rfl
  rw [List.nil_append] at l4
  have at1 : (penC q :: (g ++ [Cell.lst ds]))[(penC p1 :: g).length]? = some (.lst ds) := mg0 (p := q) (g := g) (xs := [])
  have cl : clean (penC p1 :: g) (penC q :: (g ++ [Cell.lst ds])) = true := clean_mm hg
  unfold mLC
  rw [hi, Res.ok_bind, ll, e0, l4, Res.ok_bind]
  unfold finF
  rw [at1]
  simp only [hb, cl, Bool.and_self, if_true]
  simp
/-! values that are no answers -/
theorem told99 (ok : N.Ok) : gt (tight N) ("told", 99) = none := by
  cases e : gt (tight N) ("told", 99) with
  | none => rfl
  | some v =>
    have h : (("told", 99) : Nm) ∈ (tight N).map (·.1) := gt_some.mp (by rw [e]; rfl)
    rw [tight_names] at h
    rcases List.mem_append.mp h with h | h
    · obtain ⟨i, hi, e⟩ := List.mem_map.mp h
      have h1 := (Prod.mk.inj e).2
      have h2 := Pl.mem_irange.mp hi
      have := ok.g15
      omega
    · obtain ⟨i, hi, e⟩ := List.mem_map.mp h
      exact absurd (Prod.mk.inj e).1.symm told_ne
theorem ring_ns (ok : N.Ok) {ns : List Nm} (hn : ∀ nm ∈ ns, nmOk nm) (hk : ns.length ≤ 900) : F_is_fixed_answer [N.d, .tup [.str "ring", .tup (ns.map nmD)]] st = .ok (.bl (ringB (tight N) ns)) st := by
  rw [answer_eq ok]
  exact fixed_ring ok (ring_in_eq tight_nd (by have := tight_len ok; omega) hn hk)
theorem times_ts (ok : N.Ok) {ts : List Int} (hn : ∀ t ∈ ts, 0 ≤ t) (hl : ts.length ≤ 1000) : F_is_fixed_answer [N.d, .tup [.str "times", il ts]] st = .ok (.bl (decide (ts.length = N.ours.length) && hdz ts && satB N ts)) st := by
  rw [answer_eq ok]
  exact fixed_times ok hn hl
def odds (N : Net) : List D := [.non, .tup [], .tup [.str "times"], .tup [.str "times", .tup []], .tup [.str "times", .non], .tup [.str "ring", .tup []], .tup [.str "ring", .non], .int 3, .tup [.str "ring", .tup [.non]], .tup [.str "ring", .tup [.tup [.str "told", .int 99]]], .tup [.str "times", il (List.replicate N.ours.length 1)], .tup [.str "times", il (List.replicate (N.ours.length + 1) 0)]]
theorem odds_no (ok : N.Ok) : ∀ v ∈ odds N, F_is_fixed_answer [N.d, v] st = .ok (.bl false) st := by
  have tl : (tight N).length ≤ 900 := by have := tight_len ok; omega
  have ol := ours_len (N := N)
  have m6 := ok.m6
  have o1 : 0 < N.ours.length := List.length_pos_of_mem (zero_ours ok)
  intro v hv
  simp only [odds, List.mem_cons, List.not_mem_nil, or_false] at hv
  rcases hv with rfl | rfl | rfl | rfl | rfl | rfl | rfl | rfl | rfl | rfl | rfl | rfl
  · rw [answer_eq ok]; exact fixed_no (word_no fun _ => tup_non) (word_no fun _ => tup_non)
  · rw [answer_eq ok]; exact fixed_no word_nil word_nil
  · rw [answer_eq ok]; exact fixed_no (by rw [word_eq]; rfl) (by rw [word_eq]; rfl)
  · have := times_ts (st := st) ok (ts := []) (by simp) (by simp)
    rw [show (il [] : D) = .tup [] from rfl] at this
    rw [this]
    simp [hdz]
  · rw [answer_eq ok]; exact fixed_tnon
  · exact ring_ns (ns := []) ok (by simp) (by simp)
  · rw [answer_eq ok]; exact fixed_ring ok (ring_in_non tight_nd tl)
  · rw [answer_eq ok]; exact fixed_no (word_no fun _ => tup_int 3) (word_no fun _ => tup_int 3)
  · rw [answer_eq ok]; exact fixed_ring ok (ring_in_one tight_nd tl)
  · have := ring_ns (st := st) ok (ns := [("told", 99)]) (fun nm h => by
      rw [List.mem_singleton] at h; subst h
      exact ⟨told_ok, by decide⟩) (by simp)
    have e : ringB (tight N) [("told", 99)] = false := by
      unfold ringB
      simp only [List.all_cons, told99 ok]
      rfl
    rw [e] at this
    exact this
  · rw [times_ts ok (fun t ht => by rw [(List.mem_replicate.mp ht).2]; decide) (by simp; omega)]
    have : hdz (List.replicate N.ours.length 1) = false := by
      cases e : N.ours.length with
      | zero => omega
      | succ k => rfl
    rw [this]
    simp
  · rw [times_ts ok (fun t ht => by rw [(List.mem_replicate.mp ht).2]; decide) (by simp; omega)]
    rw [decide_eq_false (by simp)]
    rfl
theorem loopOdd (ok : N.Ok) {a0 a1 a2 a4 a5 a6 a7 a8 a9 a10 a11 a12 a13 a15 a16 : Option D} : ∀ (vs : List D), (∀ v ∈ vs, F_is_fixed_answer [N.d, v] st = .ok (.bl false) st) → ∀ x14 : Option D, ∃ y14 : Option D,
    forL vs (stepF (gNm 14) b_law_34) [a0, a1, a2, some N.d, a4, a5, a6, a7, a8, a9, a10, a11, a12, a13, x14, a15, a16] st = .nx [a0, a1, a2, some N.d, a4, a5, a6, a7, a8, a9, a10, a11, a12, a13, y14, a15, a16] st
  | [], _, x14 => ⟨x14, rfl⟩
  | v :: vs, h, x14 => by
    obtain ⟨y14, ih⟩ := loopOdd ok (a0 := a0) (a1 := a1) (a2 := a2) (a4 := a4) (a5 := a5) (a6 := a6) (a7 := a7) (a8 := a8) (a9 := a9) (a10 := a10) (a11 := a11) (a12 := a12) (a13 := a13) (a15 := a15) (a16 := a16) vs (fun w hw => h w (List.mem_cons_of_mem _ hw)) (some v)
    refine ⟨y14, ?_⟩
    rw [← ih]
    have hv := h v List.mem_cons_self
    have nn : isnotD (.bl false) (.bl false) st = .ok (.bl false) st := rfl
    simp only [forL, stepF, ap_gNm, List.set_cons_succ, List.set_cons_zero, b_law_34, ap_if, ap_asB, ap_m2, ap_mF, ap_args1, ap_args0, ap_c, mVar, List.getElem?_cons_succ, List.getElem?_cons_zero, Res.ok_bind, hv, nn, ap_resB, Bool.false_eq_true, if_false, Res.ok_toS, ap_nil]
end
end G15
set_option maxHeartbeats 4000000
namespace G15
open PySem PySem.Spec PyProof.Rows L2 VI
section
variable {B : Int} {g : Mem} {N : Net} {p : Pen}
theorem ints_of {Q : Int → Prop} : ∀ {ds : List D}, (∀ d ∈ ds, ∃ i, d = .int i ∧ Q i) → ∃ ts : List Int, ds = ts.map .int ∧ ∀ t ∈ ts, Q t
  | [], _ => ⟨[], rfl, by simp⟩
  | d :: ds, h => by
    obtain ⟨i, rfl, hi⟩ := h d List.mem_cons_self
    obtain ⟨ts, rfl, ht⟩ := ints_of fun e he => h e (List.mem_cons_of_mem _ he)
    refine ⟨i :: ts, rfl, fun t h => ?_⟩
    rcases List.mem_cons.mp h with rfl | h
    · exact hi
    · exact ht t h
theorem nms_of {Q : Nm → Prop} : ∀ {ds : List D}, (∀ d ∈ ds, ∃ nm, d = nmD nm ∧ Q nm) → ∃ ns : List Nm, ds = ns.map nmD ∧ ∀ nm ∈ ns, Q nm
  | [], _ => ⟨[], rfl, by simp⟩
  | d :: ds, h => by
    obtain ⟨i, rfl, hi⟩ := h d List.mem_cons_self
    obtain ⟨ts, rfl, ht⟩ := nms_of fun e he => h e (List.mem_cons_of_mem _ he)
    refine ⟨i :: ts, rfl, fun t h => ?_⟩
    rcases List.mem_cons.mp h with rfl | h
    · exact hi
    · exact ht t h
theorem nm_below (nm : Nm) (n : Nat) : belowD n (nmD nm) = true := rfl
abbrev E17 (a0 x2 : Option D) (N : Net) (rl : Nat) (A : D) (x7 x8 x9 x10 x11 x12 x13 x14 x15 x16 : Option D) : List (Option D) := [a0, some (.loc 0), x2, some N.d, some (.loc rl), some (.lst (N.ours.map .int)), some A, x7, x8, x9, x10, x11, x12, x13, x14, x15, x16]
/-- times drawn -/
theorem draw_times (hg : Flat g) (ok : N.Ok) (pk : PK B p) (hB : B ≤ 700000) {a0 x2 x7 x8 x9 x10 x11 x12 x13 x14 x15 x16 : Option D} {rl : Nat} {A : D} :
    ∃ (ts : List Int) (q : Pen), ts.length + 1 = N.ours.length ∧ (∀ t ∈ ts, 0 ≤ t) ∧ PK (B + 6) q ∧
      mLC finF (mIt (mSlice mkF (mVar 5) (mPart (mC (.int 1))) mNoPart)) (gNm 15) (mYes) (mF F__law_draw [mVar 1, mC (.int 9)]) [15] (E17 a0 x2 N rl A x7 x8 x9 x10 x11 x12 x13 x14 x15 x16) (penC p :: g) = .ok (.lst (ts.map .int)) (penC q :: g) := by
  have hc := congrArg List.length (ours_cons ok)
  simp only [List.length_cons] at hc
  have ol := ours_len (N := N)
  have m6 := ok.m6
  have hd : (N.ours.drop 1).length + 1 = N.ours.length := by omega
  obtain ⟨ds, q, l1, l2, l3, l4⟩ := lc_pen (g := g) (B := B) (p := p) (p1 := p) (X := (N.ours.drop 1).map .int) (P := fun d => ∃ i, d = .int i ∧ 0 ≤ i) (gg := gNm 15) (t := mYes) (m := mF F__law_draw [mVar 1, mC (.int 9)]) (vs := [15]) (ρ := E17 a0 x2 N rl A x7 x8 x9 x10 x11 x12 x13 x14 x15 x16) (mi := mIt (mSlice mkF (mVar 5) (mPart (mC (.int 1))) mNoPart)) hg (fun d ⟨i, e, _⟩ n => by subst e; rfl) (fun x hx B' q acc pk' hB' => by
    obtain ⟨r, q', e, r0, r1, pk2⟩ := draw0 (many := 9) (rest := g ++ [.lst acc]) pk' (by omega) (by decide) (by decide)
    refine ⟨.int r, q', ?_, ⟨r, rfl, r0⟩, pk2⟩
    simp only [stepL, wipeE, ap_gNm, ap_yes, ap_mF, ap_args1, ap_args0, ap_c, mVar, List.set_cons_succ, List.set_cons_zero, List.getElem?_cons_succ, List.getElem?_cons_zero, Res.ok_bind, Res.noX_ok, if_true, e]) (by
    simp only [ap_it, ap_slice, ap_part, ap_nopart, ap_c, mVar, List.getElem?_cons_succ, List.getElem?_cons_zero, Res.ok_bind, resI_int, slice_lst, mkF, frz_lst, cut1]
    rw [List.map_drop]) pk (by omega) (by rw [List.length_map]; omega)
  obtain ⟨ts, rfl, ht⟩ := ints_of l2
  rw [List.length_map, List.length_map] at l1
  refine ⟨ts, q, by omega, ht, pen_mono l3 (by rw [List.length_map]; omega), l4⟩
/-- the names, sorted -/
theorem names_ok {n : Nat} {st : Mem} (h : st[n]? = some (.dT (encT (tight N)))) : ∃ M : List D, sortedSI (.loc n) st = .ok (.lst M) st ∧ M.length = (tight N).length ∧ ∀ d ∈ M, ∃ nm, d = nmD nm ∧ nmOk nm := by
  have e0 : (encT (tight N)).map (fun p : List Key × D => D.tup (p.1.map kDd)) = (tight N).map fun r => nmD r.1 := by
    unfold encT
    rw [List.map_map]
    rfl
  have hall : ((tight N).map fun r => nmD r.1).all isSI = true := by
    rw [List.all_eq_true]
    intro d hd
    obtain ⟨r, _, rfl⟩ := List.mem_map.mp hd
    rfl
  refine ⟨((tight N).map fun r => nmD r.1).mergeSort (PySem.W.dataLe false siPy), ?_, ?_, fun d hd => ?_⟩
  · unfold sortedSI
    simp only [srcD, h, e0, hall, if_true]
  · rw [List.length_mergeSort, List.length_map]
  · have := (List.mergeSort_perm _ _).mem_iff.mp hd
    obtain ⟨r, hr, rfl⟩ := List.mem_map.mp this
    exact ⟨r.1, rfl, tight_nmOk (List.mem_map.mpr ⟨r, hr, rfl⟩)⟩
/-- a ring drawn -/
theorem draw_ring (hg : Flat g) (pk : PK B p) (hB : B ≤ 700000) {M : List D} (hM : ∀ d ∈ M, ∃ nm, d = nmD nm ∧ nmOk nm) (h1 : 1 ≤ M.length) (h2 : M.length ≤ 900) {a0 x2 x7 x8 x10 x11 x12 x13 x14 x15 x16 : Option D} {rl : Nat} {A : D} :
    ∃ (ns : List Nm) (q : Pen), ns.length ≤ 3 ∧ (∀ nm ∈ ns, nmOk nm) ∧ PK (B + 4) q ∧
      mLC finF (mRng1 (m2 addD (mC (.int 1)) (mF F__law_draw [mVar 1, mC (.int 3)]))) (gNm 16) (mYes) (mF F__law_pick [mVar 1, mVar 9]) [16] (E17 a0 x2 N rl A x7 x8 (some (.lst M)) x10 x11 x12 x13 x14 x15 x16) (penC p :: g) = .ok (.lst (ns.map nmD)) (penC q :: g) := by
  obtain ⟨r, q1, e1, r0, r1, pk1⟩ := draw0 (many := 3) (rest := g) pk (by omega) (by decide) (by decide)
  have li : (Pl.irange 0 (1 + r)).length = (1 + r).toNat := by rw [Pl.length_irange]; omega
  obtain ⟨ds, q, l1, l2, l3, l4⟩ := lc_pen (g := g) (B := B + 1) (p := p) (p1 := q1) (X := (Pl.irange 0 (1 + r)).map .int) (P := fun d => ∃ nm, d = nmD nm ∧ nmOk nm) (gg := gNm 16) (t := mYes) (m := mF F__law_pick [mVar 1, mVar 9]) (vs := [16]) (ρ := E17 a0 x2 N rl A x7 x8 (some (.lst M)) x10 x11 x12 x13 x14 x15 x16) (mi := mRng1 (m2 addD (mC (.int 1)) (mF F__law_draw [mVar 1, mC (.int 3)]))) hg (fun d ⟨nm, e, _⟩ n => by subst e; rfl) (fun x hx B' q acc pk' hB' => by
    obtain ⟨d, q', e, hd, pk2⟩ := pickL (rest := g ++ [.lst acc]) pk' (by omega) h1 (by omega)
    refine ⟨d, q', ?_, hM d hd, pk2⟩
    simp only [stepL, wipeE, ap_gNm, ap_yes, ap_mF, ap_args1, ap_args0, ap_c, mVar, List.set_cons_succ, List.set_cons_zero, List.getElem?_cons_succ, List.getElem?_cons_zero, Res.ok_bind, Res.noX_ok, if_true, e]) (by
    have e : (m2 addD (mC (.int 1)) (mF F__law_draw [mVar 1, mC (.int 3)])) (E17 a0 x2 N rl A x7 x8 (some (.lst M)) x10 x11 x12 x13 x14 x15 x16) (penC p :: g) = .ok (.int (1 + r)) (penC q1 :: g) := by
      simp only [ap_mF, ap_args1, ap_args0, ap_m2, ap_c, mVar, List.getElem?_cons_succ, List.getElem?_cons_zero, Res.ok_bind, e1, addD_int]
    unfold mRng1
    simp only [e, Res.ok_bind, small_big (show -1000000 ≤ 1 + r by omega) (show 1 + r ≤ 1000000 by omega), if_true]
    have := rangeL_eq 0 (1 + r)
    rw [show 1 + r - 0 = 1 + r by omega] at this
    rw [this]) pk1 (by omega) (by rw [List.length_map]; omega)
  obtain ⟨ns, rfl, hn⟩ := nms_of l2
  rw [List.length_map, List.length_map] at l1
  refine ⟨ns, q, by omega, hn, pen_mono l3 (by rw [List.length_map]; omega), l4⟩
/-- what the answer is -/
def AnsOk (A : D) : Prop := (∃ T : List Int, A = .tup [.str "times", il T]) ∨ (∃ ns : List Nm, A = .tup [.str "ring", .tup (ns.map nmD)] ∧ 1 ≤ ns.length ∧ ns.length ≤ 20 ∧ ∀ nm ∈ ns, nmOk nm)
theorem sring : (("times" : Str) == "ring") = false := by decide +kernel
/-- a ring bent -/
theorem bend {A : D} (hA : AnsOk A) (pk : PK B p) (hB : B ≤ 700000) {ns : List Nm} (hn : ∀ nm ∈ ns, nmOk nm) (hl : ns.length ≤ 3) (a0 x2 x7 x8 x9 x11 x12 x13 x14 x15 x16 : Option D) (rl : Nat) :
    ∃ (ms : List Nm) (q : Pen) (y11 y12 : Option D), (∀ nm ∈ ms, nmOk nm) ∧ ms.length ≤ 40 ∧ PK (B + 2) q ∧
      (sIf (asB (m2 eqD (m2 ixD (mVar 6) (mC (.int 0))) (mC (.str "ring")))) (sSeq (sSet 11 (mF F__law_draw [mVar 1, mF (f1 lenD) [m2 ixD (mVar 6) (mC (.int 1))]])) (q_law_28)) (sNil)) (E17 a0 x2 N rl A x7 x8 x9 (some (.tup (ns.map nmD))) x11 x12 x13 x14 x15 x16) (penC p :: g) =
        .nx (E17 a0 x2 N rl A x7 x8 x9 (some (.tup (ms.map nmD))) y11 y12 x13 x14 x15 x16) (penC q :: g) := by
  rcases hA with ⟨T, rfl⟩ | ⟨tn, rfl, t1, t2, t3⟩
  · refine ⟨ns, p, x11, x12, hn, by omega, pen_mono pk (by omega), ?_⟩
    have es : ∀ st, eqD (.str "times") (.str "ring") st = .ok (.bl (("times" : Str) == "ring")) st := fun st => rfl
    simp only [ap_if, ap_asB, ap_m2, ap_c, mVar, List.getElem?_cons_succ, List.getElem?_cons_zero, Res.ok_bind, ixd0, es, sring, ap_resB, Res.ok_toS, Bool.false_eq_true, if_false, ap_nil]
  · obtain ⟨r, q1, e1, r0, r1, pk1⟩ := draw0 (many := (tn.length : Nat)) (rest := g) pk (by omega) (by omega) (by omega)
    obtain ⟨k, hk⟩ : ∃ k : Nat, (k : Int) = r := ⟨r.toNat, by omega⟩
    have es : ∀ st, eqD (.str "ring") (.str "ring") st = .ok (.bl true) st := fun st => rfl
    have ln : ∀ st, lenD (.tup (tn.map nmD)) st = .ok (.int (tn.length : Nat)) st := fun st => by rw [lenD_tup, List.length_map]
    obtain ⟨d, q2, e2, hd, pk2⟩ := pickL (xs := [.tup (ns.map nmD), .tup ((tn.map nmD).drop k ++ (tn.map nmD).take k), .tup ((tn.map nmD).drop 1), .tup (tn.map nmD ++ tn.map nmD), .tup (tn.map nmD).reverse]) (rest := g) pk1 (by omega) (by simp) (by simp)
    obtain ⟨ms, rfl, hm1, hm2⟩ : ∃ ms : List Nm, d = .tup (ms.map nmD) ∧ (∀ nm ∈ ms, nmOk nm) ∧ ms.length ≤ 40 := by
      simp only [List.mem_cons, List.not_mem_nil, or_false] at hd
      rcases hd with rfl | rfl | rfl | rfl | rfl
      · exact ⟨ns, rfl, hn, by omega⟩
      · refine ⟨tn.drop k ++ tn.take k, by rw [List.map_append, List.map_drop, List.map_take], fun nm h => ?_, by simp only [List.length_append, List.length_drop, List.length_take]; omega⟩
        rcases List.mem_append.mp h with h | h
        · exact t3 nm (List.mem_of_mem_drop h)
        · exact t3 nm (List.mem_of_mem_take h)
      · exact ⟨tn.drop 1, by rw [List.map_drop], fun nm h => t3 nm (List.mem_of_mem_drop h), by simp only [List.length_drop]; omega⟩
      · refine ⟨tn ++ tn, by rw [List.map_append], fun nm h => ?_, by simp only [List.length_append]; omega⟩
        rcases List.mem_append.mp h with h | h <;> exact t3 nm h
      · exact ⟨tn.reverse, by rw [List.map_reverse], fun nm h => t3 nm (List.mem_reverse.mp h), by simp only [List.length_reverse]; omega⟩
    refine ⟨ms, q2, some (.int r), some (.tup (tn.map nmD)), hm1, hm2, pen_mono pk2 (by omega), ?_⟩
    have c1 : cutD (tn.map nmD) (some r) none = (tn.map nmD).drop k := by rw [← hk]; exact cutFrom _ k
    have c2 : cutD (tn.map nmD) none (some r) = (tn.map nmD).take k := by rw [← hk]; exact cutTo _ k
    have ad1 : ∀ st, addD (.tup ((tn.map nmD).drop k)) (.tup ((tn.map nmD).take k)) st = .ok (.tup ((tn.map nmD).drop k ++ (tn.map nmD).take k)) st := fun st => add_tup (by simp only [List.length_drop, List.length_take, List.length_map]; omega)
    have ad2 : ∀ st, addD (.tup (tn.map nmD)) (.tup (tn.map nmD)) st = .ok (.tup (tn.map nmD ++ tn.map nmD)) st := fun st => add_tup (by simp only [List.length_map]; omega)
    have rv : ∀ st, revTD (.tup (tn.map nmD)) st = .ok (.tup (tn.map nmD).reverse) st := fun st => rfl
    simp only [ap_if, ap_asB, ap_m2, ap_c, mVar, List.getElem?_cons_succ, List.getElem?_cons_zero, Res.ok_bind, ixd0, ixd1, es, ap_resB, Res.ok_toS, if_true, ap_seq, ap_set, ap_mF, ap_args1, ap_args0, ap_f1, ln, e1, RS.nx_seq, List.set_cons_succ, List.set_cons_zero, q_law_28, q_law_29, ap_lst, ap_slice, ap_part, ap_nopart, resI_int, slice_tup, c1, c2, cut1, ad1, ad2, ap_m1, rv, ap_mkF, e2]
end
end G15
set_option maxHeartbeats 4000000
namespace G15
open PySem PySem.Spec PyProof.Rows L2 VI
section
variable {B : Int} {g : Mem} {N : Net} {p : Pen} {n : Nat} {A : D}
/-- one time round -/
theorem inner (hg : Flat g) (hn : g[n]? = some (.dT (encT (tight N)))) (ok : N.Ok) (hA : AnsOk A) (pk : PK B p) (hB : B ≤ 600000) (i : Int) (a0 x2 x7 x8 x9 x10 x11 x12 x13 x14 x15 x16 : Option D) :
    ∃ (q : Pen) (y7 y9 y10 y11 y12 : Option D), PK (B + 12) q ∧ stepF (gNm 8) b_law_20 (.int i) (E17 a0 x2 N (n + 1) A x7 x8 x9 x10 x11 x12 x13 x14 x15 x16) (penC p :: g) = .nx (E17 a0 x2 N (n + 1) A y7 (some (.int i)) y9 y10 y11 y12 x13 x14 x15 x16) (penC q :: g) := by
  have ol := ours_len (N := N)
  have m6 := ok.m6
  have m2' := ok.m2
  have tl := tight_len ok
  obtain ⟨ts, q1, l1, l2, pk1, e1⟩ := draw_times (a0 := a0) (x2 := x2) (x7 := x7) (x8 := some (.int i)) (x9 := x9) (x10 := x10) (x11 := x11) (x12 := x12) (x13 := x13) (x14 := x14) (x15 := x15) (x16 := x16) (rl := n + 1) (A := A) hg ok pk (by omega)
  have hat : ∀ q : Pen, (penC q :: g)[n + 1]? = some (.dT (encT (tight N))) := fun q => by rw [List.getElem?_cons_succ]; exact hn
  obtain ⟨M, s1, s2, s3⟩ := names_ok (hat q1)
  have tl1 : 1 ≤ (tight N).length := by
    unfold tight
    rw [List.length_append, tg_len, List.length_map, Pl.length_irange]
    omega
  obtain ⟨ns, q2, r1, r2, pk2, e2⟩ := draw_ring (N := N) (a0 := a0) (x2 := x2) (x7 := some (il (0 :: ts))) (x8 := some (.int i)) (x10 := x10) (x11 := x11) (x12 := x12) (x13 := x13) (x14 := x14) (x15 := x15) (x16 := x16) (rl := n + 1) (A := A) hg pk1 (by omega) s3 (by omega) (by omega)
  obtain ⟨ms, q3, y11, y12, b1, b2, pk3, e3⟩ := bend (N := N) (g := g) hA pk2 (by omega) r2 r1 a0 x2 (some (il (0 :: ts))) (some (.int i)) (some (.lst M)) x11 x12 x13 x14 x15 x16 (n + 1)
  refine ⟨q3, some (il (0 :: ts)), some (.lst M), some (.tup (ms.map nmD)), y11, y12, pen_mono pk3 (by omega), ?_⟩
  have hnn : ∀ t ∈ (0 :: ts), (0 : Int) ≤ t := fun t ht => by
    rcases List.mem_cons.mp ht with rfl | ht
    · exact Int.le_refl _
    · exact l2 t ht
  have hlen : (0 :: ts).length = N.ours.length := by simpa using l1
  have ft : ∀ st, F_is_fixed_answer [N.d, .tup [.str "times", il (0 :: ts)]] st = .ok (.bl (allB N (0 :: ts))) st := fun st => by
    rw [times_ts ok hnn (by omega), decide_eq_true hlen, sat_all ok hlen hnn rfl]
    rfl
  have nb : ∀ (b : Bool) st, neD (.bl b) (.bl b) st = .ok (.bl false) st := fun b st => neD_same rfl (fun _ h => nomatch h)
  have at0 : addD (.tup [.int 0]) (.tup (ts.map .int)) (penC q1 :: g) = .ok (il (0 :: ts)) (penC q1 :: g) := by
    rw [add_tup (by simp only [List.length_cons, List.length_nil, List.length_map]; omega)]
    rfl
  have tt : ∀ (xs : List D) st, tupleD (.lst xs) st = .ok (.tup xs) st := fun xs st => rfl
  have rr := ring_right_eq (hat q3) b1 (by omega)
  have fr := ring_ns (st := penC q3 :: g) ok b1 (by omega)
  have e1' := e1
  have e2' := e2
  have e3' := e3
  simp only [E17] at e1' e2' e3'
  have a1 : stepF (gNm 8) b_law_20 (.int i) (E17 a0 x2 N (n + 1) A x7 x8 x9 x10 x11 x12 x13 x14 x15 x16) (penC p :: g) = q_law_26 (E17 a0 x2 N (n + 1) A (some (il (0 :: ts))) (some (.int i)) (some (.lst M)) (some (.tup (ns.map nmD))) x11 x12 x13 x14 x15 x16) (penC q2 :: g) := by
    simp only [stepF, ap_gNm, List.set_cons_succ, List.set_cons_zero, b_law_20, ap_seq, ap_set, ap_m2, ap_tup, ap_args1, ap_args0, ap_c, ap_mF, Res.ok_bind, e1', ap_f1, tt, at0, Res.ok_toS, RS.nx_seq, q_law_22, ap_if, ap_asB, mVar, List.getElem?_cons_succ, List.getElem?_cons_zero, ft, always_eq ok, nb, ap_resB, Bool.false_eq_true, if_false, ap_nil, q_law_24, s1, q_law_25, e2']
  rw [a1]
  simp only [q_law_26, ap_seq, e3', RS.nx_seq, q_law_30, ap_if, ap_asB, ap_m2, ap_mF, ap_args1, ap_args0, ap_tup, ap_c, mVar, List.getElem?_cons_succ, List.getElem?_cons_zero, Res.ok_bind, fr, rr, nb, ap_resB, Bool.false_eq_true, if_false, ap_nil, Res.ok_toS]
theorem inners (hg : Flat g) (hn : g[n]? = some (.dT (encT (tight N)))) (ok : N.Ok) (hA : AnsOk A) : ∀ (is : List Int) (p : Pen) (B : Int), PK B p → B + 12 * is.length ≤ 600000 → ∀ (a0 x2 x7 x8 x9 x10 x11 x12 x13 x14 x15 x16 : Option D),
    ∃ (q : Pen) (y7 y8 y9 y10 y11 y12 : Option D), PK (B + 12 * is.length) q ∧ forL (is.map .int) (stepF (gNm 8) b_law_20) (E17 a0 x2 N (n + 1) A x7 x8 x9 x10 x11 x12 x13 x14 x15 x16) (penC p :: g) = .nx (E17 a0 x2 N (n + 1) A y7 y8 y9 y10 y11 y12 x13 x14 x15 x16) (penC q :: g)
  | [], p, B, pk, _, a0, x2, x7, x8, x9, x10, x11, x12, x13, x14, x15, x16 => ⟨p, x7, x8, x9, x10, x11, x12, by simpa using pk, rfl⟩
  | i :: is, p, B, pk, hB, a0, x2, x7, x8, x9, x10, x11, x12, x13, x14, x15, x16 => by
    simp only [List.length_cons] at hB
    obtain ⟨q, y7, y9, y10, y11, y12, pk1, e⟩ := inner hg hn ok hA pk (by omega) i a0 x2 x7 x8 x9 x10 x11 x12 x13 x14 x15 x16
    obtain ⟨q', z7, z8, z9, z10, z11, z12, pk2, e2⟩ := inners hg hn ok hA is q (B + 12) pk1 (by omega) a0 x2 y7 (some (.int i)) y9 y10 y11 y12 x13 x14 x15 x16
    refine ⟨q', z7, z8, z9, z10, z11, z12, by rw [show B + 12 * ((i :: is).length : Nat) = B + 12 + 12 * (is.length : Nat) by simp only [List.length_cons]; omega]; exact pk2, ?_⟩
    rw [← e2]
    simp only [List.map_cons, forL, e]
/-- the end of a lap -/
theorem lapEnd (hg : Flat g) (hn : g[n]? = some (.dT (encT (tight N)))) (ok : N.Ok) (h2 : 2 ≤ N.ours.length) (hA : AnsOk A) (pk : PK B p) (hB : B ≤ 500000) (a0 x2 x7 x8 x9 x10 x11 x12 x13 x14 x15 x16 : Option D) :
    ∃ (q : Pen) (y7 y8 y9 y10 y11 y12 y13 y14 : Option D), PK (B + 72) q ∧ q_law_20 (E17 a0 x2 N (n + 1) A x7 x8 x9 x10 x11 x12 x13 x14 x15 x16) (penC p :: g) = .nx (E17 a0 x2 N (n + 1) A y7 y8 y9 y10 y11 y12 y13 y14 x15 x16) (penC q :: g) := by
  have ol := ours_len (N := N)
  have m6 := ok.m6
  have li : (Pl.irange 0 6).length = 6 := by rw [Pl.length_irange]; rfl
  obtain ⟨q, y7, y8, y9, y10, y11, y12, pk1, e1⟩ := inners hg hn ok hA (Pl.irange 0 6) p B pk (by omega) a0 x2 x7 x8 x9 x10 x11 x12 x13 x14 x15 x16
  rw [li] at pk1
  obtain ⟨y14, e2⟩ := loopOdd (st := penC q :: g) ok (a0 := a0) (a1 := some (.loc 0)) (a2 := x2) (a4 := some (.loc (n + 1))) (a5 := some (.lst (N.ours.map .int))) (a6 := some A) (a7 := y7) (a8 := y8) (a9 := y9) (a10 := y10) (a11 := y11) (a12 := y12) (a13 := some (.lst ((odds N).take 10))) (a15 := x15) (a16 := x16) (odds N) (odds_no ok) x14
  refine ⟨q, y7, y8, y9, y10, y11, y12, some (.lst ((odds N).take 10)), y14, pen_mono pk1 (by omega), ?_⟩
  have rg : ∀ ρ s, mRng1 (mC (.int 6)) ρ s = .ok ((Pl.irange 0 6).map .int) s := fun ρ s => rng1_eq rfl (by decide)
  have ll : ∀ st, lenD (.lst (N.ours.map .int)) st = .ok (.int (N.ours.length : Nat)) st := fun st => by rw [lenD_lst', List.length_map]
  have r1 : ∀ st, mulD mkF (.tup [.int 1]) (.int (N.ours.length : Nat)) st = .ok (il (List.replicate N.ours.length 1)) st := fun st => rep_tup h2 (by omega)
  have r2 : ∀ st, mulD mkF (.tup [.int 0]) (.int ((N.ours.length : Int) + 1)) st = .ok (il (List.replicate (N.ours.length + 1) 0)) st := fun st => rep_tup (k := N.ours.length + 1) (by omega) (by omega)
  have ad1 : ∀ st, addD (.lst [.non, .tup [], .tup [.str "times"], .tup [.str "times", .tup []], .tup [.str "times", .non], .tup [.str "ring", .tup []], .tup [.str "ring", .non], .int 3]) (.lst [.tup [.str "ring", .tup [.non]], .tup [.str "ring", .tup [.tup [.str "told", .int 99]]]]) st = .ok (.lst ((odds N).take 10)) st := fun st => by
    rw [add_lst (by simp)]; rfl
  have ad2 : ∀ st, addD (.lst ((odds N).take 10)) (.lst [.tup [.str "times", il (List.replicate N.ours.length 1)], .tup [.str "times", il (List.replicate (N.ours.length + 1) 0)]]) st = .ok (.lst (odds N)) st := fun st => by
    rw [add_lst (by simp only [List.length_take, List.length_cons, List.length_nil]; omega)]; rfl
  have e1' := e1
  simp only [E17] at e1'
  simp only [q_law_20, ap_seq, sFor, rg, Res.ok_toS, e1', RS.nx_seq, q_law_32, ap_set, ap_lst, ap_args1, ap_args0, ap_c, ap_tup, Res.ok_bind, ap_mkF, List.set_cons_succ, List.set_cons_zero, q_law_33, ap_m2, mVar, List.getElem?_cons_succ, List.getElem?_cons_zero, ad1, q_law_34, ap_it, ap_mF, ap_f1, ll, r1, addD_int, r2, ad2, frz_lst, e2]
/-! the answer judged -/
theorem min_nn : ∀ (xs : List Int) (a : Int), 0 ≤ a → (∀ x ∈ xs, 0 ≤ x) → 0 ≤ xs.foldl min a
  | [], a, h, _ => h
  | x :: xs, a, h, hx => min_nn xs (min a x) (by have := hx x List.mem_cons_self; omega) fun y hy => hx y (List.mem_cons_of_mem _ hy)
theorem tz_map (ok : N.Ok) {f : Int → Int} {x : Int} (hx : x ∈ N.ours) : tz N (N.ours.map f) x = f x := by
  obtain ⟨y, hy⟩ := mem_zip_l (xs := N.ours) (ys := N.ours.map f) (by simp) x hx
  rw [tz_zip (by simp) _ hy]
  exact zip_map_self f hy
theorem loopNo (ok : N.Ok) {st : Mem} {a0 a1 a2 a4 a5 a6 a8 a9 a10 a11 a12 a13 a14 a15 a16 : Option D} : ∀ (F : List (List Int)), (∀ t ∈ F, allB N t = false) → ∀ x7 : Option D, ∃ y7 : Option D,
    forL (F.map il) (stepF (gNm 7) b_law_17) [a0, a1, a2, some N.d, a4, a5, a6, x7, a8, a9, a10, a11, a12, a13, a14, a15, a16] st = .nx [a0, a1, a2, some N.d, a4, a5, a6, y7, a8, a9, a10, a11, a12, a13, a14, a15, a16] st
  | [], _, x7 => ⟨x7, rfl⟩
  | t :: F, h, x7 => by
    obtain ⟨y7, ih⟩ := loopNo ok (a0 := a0) (a1 := a1) (a2 := a2) (a4 := a4) (a5 := a5) (a6 := a6) (a8 := a8) (a9 := a9) (a10 := a10) (a11 := a11) (a12 := a12) (a13 := a13) (a14 := a14) (a15 := a15) (a16 := a16) F (fun w hw => h w (List.mem_cons_of_mem _ hw)) (some (il t))
    refine ⟨y7, ?_⟩
    rw [← ih]
    have ht := h t List.mem_cons_self
    simp only [List.map_cons, forL, stepF, ap_gNm, List.set_cons_succ, List.set_cons_zero, b_law_17, ap_if, ap_asT, ap_mF, ap_args1, ap_args0, mVar, List.getElem?_cons_succ, List.getElem?_cons_zero, Res.ok_bind, always_eq ok, ht, ap_resT, Bool.false_eq_true, if_false, Res.ok_toS, ap_nil]
theorem judged (ok : N.Ok) (hn : g[n]? = some (.dT (encT (tight N)))) (a0 x2 x6 x7 x8 x9 x10 x11 x12 x13 x14 x15 x16 : Option D) :
    ∃ (A : D) (y7 : Option D), AnsOk A ∧ q_law_5 ([a0, some (.loc 0), x2, some N.d, some (.loc (n + 1)), some (.lst (N.ours.map .int)), x6, x7, x8, x9, x10, x11, x12, x13, x14, x15, x16]) (penC p :: g) = q_law_20 (E17 a0 x2 N (n + 1) A y7 x8 x9 x10 x11 x12 x13 x14 x15 x16) (penC p :: g) := by
  have ol := ours_len (N := N)
  have m6 := ok.m6
  have h0 := zero_ours ok
  have o1 : 0 < N.ours.length := List.length_pos_of_mem h0
  have hat : (penC p :: g)[n + 1]? = some (.dT (encT (tight N))) := by rw [List.getElem?_cons_succ]; exact hn
  have ntt : ∀ st, isnotD (.bl true) (.bl true) st = .ok (.bl false) st := fun st => rfl
  have ll : ∀ st, lenD (.lst (N.ours.map .int)) st = .ok (.int (N.ours.length : Nat)) st := fun st => by rw [lenD_lst', List.length_map]
  rcases fixed_eq (st := penC p :: g) ok with ⟨ns, hr, e⟩ | ⟨T, t0, tn, ts, e⟩
  · obtain ⟨G, x, g1, g2, g3, g4, g5⟩ := id hr
    have n1 : 1 ≤ ns.length := by
      rw [← g4, List.length_map]
      cases G with
      | nil => exact absurd rfl g1
      | cons a b => simp
    have nok : ∀ nm ∈ ns, nmOk nm := fun nm h => by
      rw [← g4] at h
      obtain ⟨r, hr', rfl⟩ := List.mem_map.mp h
      exact tight_nmOk (List.mem_map.mpr ⟨r, chain_mem g2 r hr', rfl⟩)
    have rb : ringB (tight N) ns = true := ringB_of tight_nd hr
    have fr := ring_ns (st := penC p :: g) ok nok (by omega)
    rw [rb] at fr
    have rr := ring_right_eq hat nok (by omega)
    rw [rb] at rr
    have es : ∀ st, eqD (.str "ring") (.str "times") st = .ok (.bl false) st := fun st => by
      have : (("ring" : Str) == "times") = false := by decide +kernel
      show Res.ok (D.bl (("ring" : Str) == "times")) st = _
      rw [this]
    have en : ∀ st, neD (.str "ring") (.str "ring") st = .ok (.bl false) st := fun st => by
      have : (("ring" : Str) == "ring") = true := by decide +kernel
      show Res.ok (D.bl (!(("ring" : Str) == "ring"))) st = _
      rw [this]; rfl
    have fin : ∃ y7, q_law_16 (E17 a0 x2 N (n + 1) (.tup [.str "ring", .tup (ns.map nmD)]) x7 x8 x9 x10 x11 x12 x13 x14 x15 x16) (penC p :: g) = .nx (E17 a0 x2 N (n + 1) (.tup [.str "ring", .tup (ns.map nmD)]) y7 x8 x9 x10 x11 x12 x13 x14 x15 x16) (penC p :: g) := by
      by_cases h5 : N.ours.length < 5
      · obtain ⟨y7, l⟩ := loopNo (st := penC p :: g) ok (a0 := a0) (a1 := some (.loc 0)) (a2 := x2) (a4 := some (.loc (n + 1))) (a5 := some (.lst (N.ours.map .int))) (a6 := some (.tup [.str "ring", .tup (ns.map nmD)])) (a8 := x8) (a9 := x9) (a10 := x10) (a11 := x11) (a12 := x12) (a13 := x13) (a14 := x14) (a15 := x15) (a16 := x16) (Pl.box [[0]] ((Pl.irange 0 ((N.ours.length : Int) - 1)).map fun _ => ((0 : Int), (8 : Int) + 1))) (fun t ht => by
          obtain ⟨q, hq, u, rfl, hu⟩ := Pl.mem_box.mp ht
          rw [List.mem_singleton] at hq
          subst hq
          obtain ⟨u1, u2⟩ := inB_const.mp hu
          rw [Pl.length_irange] at u1
          have hl : ([0] ++ u).length = N.ours.length := by simp only [List.length_append, List.length_cons, List.length_nil]; omega
          have hnn : ∀ t ∈ [0] ++ u, (0 : Int) ≤ t := fun t ht => by
            rcases List.mem_append.mp ht with h | h
            · rw [List.mem_singleton] at h; omega
            · exact (u2 t h).1
          rw [← sat_all ok hl hnn rfl]
          exact ring_unsat hr _) x7
        refine ⟨y7, ?_⟩
        have ta : ∀ st, F__law_times [.int (N.ours.length : Nat), .int 8] st = .ok (.lst ((Pl.box [[0]] ((Pl.irange 0 ((N.ours.length : Int) - 1)).map fun _ => ((0 : Int), (8 : Int) + 1))).map il)) st := fun st => times_all o1 (by omega) (by decide)
        have h5' : ((N.ours.length : Nat) : Int) < 5 := by omega
        simp only [q_law_16, ap_if, ap_asB, ap_m2, ap_mF, ap_args1, ap_args0, ap_c, mVar, List.getElem?_cons_succ, List.getElem?_cons_zero, Res.ok_bind, ap_f1, ll, ltD_int, h5', decide_true, ap_resB, Res.ok_toS, if_true, sFor, ap_it, ta, frz_lst, l]
      · refine ⟨x7, ?_⟩
        have h5' : ¬ ((N.ours.length : Nat) : Int) < 5 := by omega
        simp only [q_law_16, ap_if, ap_asB, ap_m2, ap_mF, ap_args1, ap_args0, ap_c, mVar, List.getElem?_cons_succ, List.getElem?_cons_zero, Res.ok_bind, ap_f1, ll, ltD_int, h5', decide_false, ap_resB, Res.ok_toS, Bool.false_eq_true, if_false, ap_nil]
    obtain ⟨y7, fin⟩ := fin
    refine ⟨.tup [.str "ring", .tup (ns.map nmD)], y7, .inr ⟨ns, rfl, n1, g5, nok⟩, ?_⟩
    have fin' := fin
    simp only [E17] at fin'
    simp only [q_law_5, ap_seq, ap_set, ap_mF, ap_args1, ap_args0, mVar, List.getElem?_cons_succ, List.getElem?_cons_zero, Res.ok_bind, e, Res.ok_toS, RS.nx_seq, List.set_cons_succ, List.set_cons_zero, q_law_6, ap_if, ap_asB, ap_m2, ap_c, fr, ntt, ap_resB, Bool.false_eq_true, if_false, ap_nil, q_law_8, ixd0, ixd1, es, ap_or, en, ap_not, ap_asT, rr, ap_resT, Bool.not_true, fin']
  · obtain ⟨X, hX⟩ : ∃ X, X = N.ours.map (tv T) := ⟨_, rfl⟩
    have xl : X.length = N.ours.length := by rw [hX, List.length_map]
    have xn : ∀ t ∈ X, 0 ≤ t := fun t ht => by
      rw [hX] at ht
      obtain ⟨x, hx, rfl⟩ := List.mem_map.mp ht
      exact tn x hx
    obtain ⟨Y, hY⟩ : ∃ Y, X = 0 :: Y := ⟨(N.ours.drop 1).map (tv T), by
      rw [hX, ours_cons ok, List.map_cons, t0, List.drop_succ_cons, List.drop_zero]⟩
    have xh : hdz X = true := by rw [hY]; rfl
    have sat : satB N X = true := by
      unfold satB
      rw [List.all_eq_true]
      intro r hr
      have hf := (tight_fact ok).1 r hr
      have h1 := ts r hr
      rw [decide_eq_true_eq, hX, tz_map ok hf.1, tz_map ok hf.2]
      omega
    have al : allB N X = true := by rw [← sat_all ok xl xn xh]; exact sat
    rw [← hX] at e
    have ft := times_ts (st := penC p :: g) ok xn (by omega)
    rw [decide_eq_true xl, xh, sat] at ft
    have ft' : F_is_fixed_answer [N.d, .tup [.str "times", il X]] (penC p :: g) = .ok (.bl true) (penC p :: g) := ft
    have es : ∀ st, eqD (.str "times") (.str "times") st = .ok (.bl true) st := fun st => by
      have : (("times" : Str) == "times") = true := by decide +kernel
      show Res.ok (D.bl (("times" : Str) == "times")) st = _
      rw [this]
    have lx : ∀ st, lenD (il X) st = .ok (.int (N.ours.length : Nat)) st := fun st => by
      show lenD (.tup (X.map .int)) st = _
      rw [lenD_tup, List.length_map, xl]
    have i0 : ∀ st, ixD (il X) (.int 0) st = .ok (.int 0) st := fun st => by rw [hY]; exact ixd0 ..
    have mn : ∃ mi : Int, 0 ≤ mi ∧ ∀ st, minTD (il X) st = .ok (.int mi) st := by
      refine ⟨Y.foldl min 0, min_nn Y 0 (Int.le_refl _) (fun y hy => xn y (by rw [hY]; exact List.mem_cons_of_mem _ hy)), fun st => ?_⟩
      rw [hY]
      show minTD (.tup ((0 :: Y).map .int)) st = _
      unfold minTD
      simp only [intsD_map]
    obtain ⟨mi, mi0, mn⟩ := mn
    have mi1 : ¬ mi < 0 := by omega
    have bz : (((N.ours.length : Nat) : Int) == ((N.ours.length : Nat) : Int)) = true := beq_self_eq_true _
    have bz0 : ((0 : Int) == 0) = true := rfl
    refine ⟨.tup [.str "times", il X], x7, .inl ⟨X, rfl⟩, ?_⟩
    simp only [q_law_5, ap_seq, ap_set, ap_mF, ap_args1, ap_args0, mVar, List.getElem?_cons_succ, List.getElem?_cons_zero, Res.ok_bind, e, Res.ok_toS, RS.nx_seq, List.set_cons_succ, List.set_cons_zero, q_law_6, ap_if, ap_asB, ap_m2, ap_c, ft', ntt, ap_resB, Bool.false_eq_true, if_false, if_true, ap_nil, q_law_8, ixd0, ixd1, es, ap_or, ap_f1, lx, ll, neD_int, bz, bz0, Bool.not_true, i0, mn, ltD_int, mi1, decide_false, q_law_11, ap_not, ap_asT, always_eq ok, al, ap_resT]
/-! a lap; the law -/
def EnvL (s : Option D) (ρ : List (Option D)) : Prop := ∃ x2 x3 x4 x5 x6 x7 x8 x9 x10 x11 x12 x13 x14 x15 x16 : Option D, ρ = [s, some (.loc 0), x2, x3, x4, x5, x6, x7, x8, x9, x10, x11, x12, x13, x14, x15, x16]
theorem lap (hg : Flat g) (pk : PK B p) (hB0 : 0 ≤ B) (hB : B ≤ 400000) (i : Int) (s x2 x3 x4 x5 x6 x7 x8 x9 x10 x11 x12 x13 x14 x15 x16 : Option D) :
    ∃ ρ' p' g', EnvL s ρ' ∧ Flat g' ∧ PK (B + 150) p' ∧ stepF (gNm 2) b_law_2 (.int i) [s, some (.loc 0), x2, x3, x4, x5, x6, x7, x8, x9, x10, x11, x12, x13, x14, x15, x16] (penC p :: g) = .nx ρ' (penC p' :: g') := by
  obtain ⟨N, p1, ok, sm, pk1, n1⟩ := network_ok (p := p) hg pk hB0 (by omega)
  have h2 := ours_two ok sm.l2
  have rw1 := rows_eq (st := penC p1 :: g) ok
  have hg2 : Flat (g ++ [.lst ((N.all.map (base N)).map gp3), .dT (encT (tight N))]) := flat_app hg flat_rows
  have hn : (g ++ [Cell.lst ((N.all.map (base N)).map gp3), .dT (encT (tight N))])[g.length + 1]? = some (.dT (encT (tight N))) := by simp
  obtain ⟨A, y7, hA, e1⟩ := judged (p := p1) ok hn s (some (.int i)) x6 x7 x8 x9 x10 x11 x12 x13 x14 x15 x16
  obtain ⟨q, z7, z8, z9, z10, z11, z12, z13, z14, pk2, e2⟩ := lapEnd (p := p1) hg2 hn ok h2 hA pk1 (by omega) s (some (.int i)) y7 x8 x9 x10 x11 x12 x13 x14 x15 x16
  have key : stepF (gNm 2) b_law_2 (.int i) [s, some (.loc 0), x2, x3, x4, x5, x6, x7, x8, x9, x10, x11, x12, x13, x14, x15, x16] (penC p :: g) = .nx (E17 s (some (.int i)) N (g.length + 1 + 1) A z7 z8 z9 z10 z11 z12 z13 z14 x15 x16) (penC q :: (g ++ [Cell.lst ((N.all.map (base N)).map gp3), .dT (encT (tight N))])) := by
    rw [← e2, ← e1]
    have rw2 : F__law_rows [N.d] (penC p1 :: g) = .ok (.loc (g.length + 1 + 1)) (penC p1 :: (g ++ [Cell.lst ((N.all.map (base N)).map gp3), .dT (encT (tight N))])) := rw1
    simp only [stepF, ap_gNm, List.set_cons_succ, List.set_cons_zero, b_law_2, ap_seq, ap_set, ap_mF, ap_args1, ap_args0, ap_c, mVar, List.getElem?_cons_succ, List.getElem?_cons_zero, Res.ok_bind, n1, Res.ok_toS, RS.nx_seq, q_law_4, ap_par, rw2, law_ours_eq ok]
  exact ⟨_, _, _, ⟨_, _, _, _, _, _, _, _, _, _, _, _, _, _, _, rfl⟩, hg2, pen_mono pk2 (by omega), key⟩
theorem math (ns : List Int) (hn : ns.length ≤ 63) : ∃ st, F_law [.fz (ns.map .int)] [] = .ok (.bl true) st := by
  obtain ⟨p, e1, ok⟩ := pen_ok ns
  have loop : ∀ (is : List Int) (g : Mem) (p : Pen) (B : Int) (ρ : List (Option D)), Flat g → PK B p → 0 ≤ B → B + 150 * is.length ≤ 300000 → EnvL (some (.fz (ns.map .int))) ρ →
      ∃ ρ' p' g', forL (is.map .int) (stepF (gNm 2) b_law_2) ρ (penC p :: g) = .nx ρ' (penC p' :: g') := by
    intro is
    induction is with
    | nil => intro g p B ρ _ _ _ _ _; exact ⟨_, _, _, rfl⟩
    | cons i is ih =>
      intro g p B ρ hg pk hB0 hB hE
      simp only [List.length_cons] at hB
      obtain ⟨x2, x3, x4, x5, x6, x7, x8, x9, x10, x11, x12, x13, x14, x15, x16, rfl⟩ := hE
      obtain ⟨ρ1, p1, g1, hE1, hg1, pk1, e⟩ := lap hg pk hB0 (by omega) i (some (.fz (ns.map .int))) x2 x3 x4 x5 x6 x7 x8 x9 x10 x11 x12 x13 x14 x15 x16
      obtain ⟨ρ2, p2, g2, e2⟩ := ih g1 p1 (B + 150) ρ1 hg1 pk1 (by omega) (by omega) hE1
      refine ⟨ρ2, p2, g2, ?_⟩
      simp only [List.map_cons, forL, e, e2]
  have li : (Pl.irange 0 5).length = 5 := by rw [Pl.length_irange]; rfl
  obtain ⟨ρ', p', g', e2⟩ := loop (Pl.irange 0 5) [] p 0 [some (.fz (ns.map .int)), some (.loc 0), none, none, none, none, none, none, none, none, none, none, none, none, none, none, none] (fun c hc => by cases hc) ok (Int.le_refl _) (by rw [li]; decide) ⟨_, _, _, _, _, _, _, _, _, _, _, _, _, _, _, rfl⟩
  refine ⟨penC p' :: g', ?_⟩
  have rg : ∀ ρ s, mRng1 (mC (.int 5)) ρ s = .ok ((Pl.irange 0 5).map .int) s := fun ρ s => rng1_eq rfl (by decide)
  show endS (m_law [some (.fz (ns.map .int)), none, none, none, none, none, none, none, none, none, none, none, none, none, none, none, none] []) = _
  simp only [m_law, ap_seq, ap_set, ap_mF, ap_args1, ap_args0, mVar, List.getElem?_cons_zero, Res.ok_bind, e1, Res.ok_toS, RS.nx_seq, List.set_cons_succ, List.set_cons_zero, q_law_2, sFor, rg, e2, q_law_37, ap_ret, ap_c]
  rfl
theorem holds_k15 : PySem.Challenge.rw_timesindoubt_k15_whole_fixed_times.Holds := holds math
end
end G15
theorem PySem.Challenge.cw_timesindoubt_k15_whole_fixed_times_holds : PySem.Challenge.rw_timesindoubt_k15_whole_fixed_times.Holds := by
  exact G15.holds_k15
