import PyProof.Rows.All
import Wide.All
import OpenK.AllK
import Wide.FinOn
import HandS.ForMost
import HandS.ForExc
import HandS.TryMany
import HandS.Lambda
import HandS.Walk
import HandS.DictTup
import HandS.AnyAll
import HandS.TupAny
import HandS.Deep
import KE.DataEq
import KE.DataCmp
import KE.DataFind
import KE.DataMinMax
import KE.DataAny
import HandS.Rev
import HandS.Zip
import HandS.Comp
import HandS.WordsExc
import KE.KTupSum
import HandS.Conv
import HandS.HeadWalk
import HandS.HeadHook4
import HandS.Head2
import KE.KStateDown
import KE.SortData
import PyProof.TupleOfSeq
import KE.KDictWalk
import KE.KDictItemsList
import KE.KDictCopyH
import KE.KDictSum
import HandS.Flow
import KE.SortKeyHeap
import KE.KDictPairs
import KE.KEqDict
import HandS.TupLen
import HandS.WordsDict
import HandS.TryOnly
import PyProof.MaxThree
import KE.GoesEnum
import KE.KIndexOf
import PyProof.ConsumeS
import PyProof.WalkInts
import HandS.Sort
import KE.KDictZip
import HandS.SortKw
import HandS.Text
import KE.GoesZip
import KE.KDictKeyed
import KE.KDictDisplayH
import PyProof.DictMoreH
import PyProof.WalksEnum
import HandS.Style
import Flt.Ops
import KE.KExcSuper
import KE.KSuper
import HandS.ExcInit
import HandS.ExcSuper
import HandS.Nested
import HandS.ExcField
import HandS.HotCalls
import HandS.NestedHot
import HandS.ExcInitHot
import HandS.SuiteRaise
import HandS.RaiseMore
import KE.KExcIs
import HandS.ExcIs
import PySem.Challenge.RW_snowhall_k22_refusals_apart
section
set_option Elab.async false
set_option linter.all false
set_option maxRecDepth 100000
set_option maxHeartbeats 4000000
namespace S3
open PySem PySem.Spec PyProof.Rows L2
/-- a value as a tree: what never changes stands in it, what may change is a number -/
inductive AV where
  | non | bl (b : Bool) | int (i : Int) | str (x : Str)
  | tup (xs : List AV) | lst (xs : List AV) | rdl (xs : List AV) | rdt (xs : List AV)
  | dK (kvs : List (Key × AV)) | dT (kvs : List (List Key × AV))
  | ins (c : Str) (fs : List (Str × AV))
  | ref (n : Nat)
/-- what may change -/
inductive AO where
  | lst (xs : List AV) | dK (kvs : List (Key × AV)) | dT (kvs : List (List Key × AV)) | ins (c : Str) (fs : List (Str × AV))
  | lck (o : AO)
abbrev AH := List AO
inductive Rs (α : Type) where
  | ok (a : α) (h : AH) | exc (c : Str) (fs : List (Str × AV)) (h : AH) | stk
def Rs.bind {α β : Type} (r : Rs α) (f : α → AH → Rs β) : Rs β := match r with
  | .ok a h => f a h
  | .exc c fs h => .exc c fs h
  | .stk => .stk
/-- the written part, the globals, the tables of code objects (of defs with lambdas, with generator expressions) -/
structure Bx where
  K : PySem.W.Frag
  mg : Str → Option Value
  T : List (Addr × Str)
  G : List Addr
/-- the tuple has no dict of its own: a constant of the module, or one made by tuple(..) and kept -/
def Nd (K : PySem.W.Frag) (F : Hp) (p : Addr) : Prop := (∃ o, K.lookup p = some o ∧ o.dict = none) ∨ ∃ o u, F p = some (.frz o u) ∧ o.dict = none
section
variable (B : Bx) (ρ : List Addr) (F : Hp)
mutual
def RV : AV → V → Prop
  | .non, v => v = .non
  | .bl b, v => v = .bl b
  | .int i, v => v = .int i
  | .str x, v => v = .str x
  | .tup xs, v => ∃ p vs, v = .ref p ∧ F p = some (.tup vs) ∧ RVs xs vs
  | .rdt xs, v => ∃ p vs, v = .ref p ∧ (SqT B.K F p vs ∧ Nd B.K F p) ∧ RVs xs vs
  | .lst xs, v => ∃ p vs, v = .ref p ∧ L2.Rd F p (.lst vs) ∧ RVs xs vs
  | .rdl xs, v => ∃ p vs, v = .ref p ∧ SqL B.K F p vs ∧ RVs xs vs
  | .dK kvs, v => ∃ p o ws, v = .ref p ∧ F p = some (.frz o (.dK ws)) ∧ RKs kvs ws
  | .dT kvs, v => ∃ p o ws, v = .ref p ∧ F p = some (.frz o (.dT ws)) ∧ RTs kvs ws
  | .ins c fs, v => ∃ p C dx ws, v = .ref p ∧ B.mg c = some (.ref C) ∧ F p = some (.ins C dx ws) ∧ RFs fs ws
  | .ref n, v => ∃ p, ρ[n]? = some p ∧ v = .ref p
def RVs : List AV → List V → Prop
  | [], vs => vs = []
  | a :: r, vs => ∃ v w, vs = v :: w ∧ RV a v ∧ RVs r w
def RKs : List (Key × AV) → List (Key × V) → Prop
  | [], vs => vs = []
  | (k, a) :: r, vs => ∃ v w, vs = (k, v) :: w ∧ RV a v ∧ RKs r w
def RTs : List (List Key × AV) → List (List Key × V) → Prop
  | [], vs => vs = []
  | (k, a) :: r, vs => ∃ v w, vs = (k, v) :: w ∧ RV a v ∧ RTs r w
def RFs : List (Str × AV) → List (Str × V) → Prop
  | [], vs => vs = []
  | (k, a) :: r, vs => ∃ v w, vs = (k, v) :: w ∧ RV a v ∧ RFs r w
end
end
end S3
end
section
set_option Elab.async false
set_option linter.all false
set_option maxRecDepth 100000
set_option maxHeartbeats 4000000
namespace S3
open PySem PySem.Spec PyProof.Rows L2
section
variable {K : PySem.W.Frag} {B : Bx} {ρ ρ' : List Addr} {F F' : Hp}
theorem nd_mono (hF : ∀ p u, F p = some u → F' p = some u) {p : Addr} (h : Nd K F p) : Nd K F' p := by
  rcases h with h | ⟨o, u, h, d⟩
  · exact .inl h
  · exact .inr ⟨o, u, hF _ _ h, d⟩
theorem sqT_mono (hF : ∀ p u, F p = some u → F' p = some u) {p : Addr} {vs : List V} (h : SqT K F p vs) : SqT K F' p vs := by
  rcases h with (h | ⟨o, h⟩) | h
  · exact .inl (.inl (hF _ _ h))
  · exact .inl (.inr ⟨o, hF _ _ h⟩)
  · exact .inr h
theorem sqL_mono (hF : ∀ p u, F p = some u → F' p = some u) {p : Addr} {vs : List V} (h : SqL K F p vs) : SqL K F' p vs := by
  rcases h with (h | ⟨o, h⟩) | h
  · exact .inl (.inl (hF _ _ h))
  · exact .inl (.inr ⟨o, hF _ _ h⟩)
  · exact .inr h
theorem rd_mono (hF : ∀ p u, F p = some u → F' p = some u) {p : Addr} {u : HO} (h : L2.Rd F p u) : L2.Rd F' p u := by
  rcases h with h | ⟨o, h⟩
  · exact .inl (hF _ _ h)
  · exact .inr ⟨o, hF _ _ h⟩
/-- the grown list of addresses keeps what stood -/
def Pre (ρ ρ' : List Addr) : Prop := ∀ (i : Nat) (p : Addr), ρ[i]? = some p → ρ'[i]? = some p
mutual
theorem RV.mono (hr : Pre ρ ρ') (hF : ∀ p u, F p = some u → F' p = some u) : ∀ (a : AV) (v : V), RV B ρ F a v → RV B ρ' F' a v
  | .non, v, h => h
  | .bl b, v, h => h
  | .int i, v, h => h
  | .str x, v, h => h
  | .tup xs, v, h => by
    obtain ⟨p, vs, e, q, r⟩ := h
    exact ⟨p, vs, e, hF _ _ q, RVs.mono hr hF xs vs r⟩
  | .rdt xs, v, h => by
    obtain ⟨p, vs, e, q, r⟩ := h
    exact ⟨p, vs, e, ⟨sqT_mono hF q.1, nd_mono hF q.2⟩, RVs.mono hr hF xs vs r⟩
  | .lst xs, v, h => by
    obtain ⟨p, vs, e, q, r⟩ := h
    exact ⟨p, vs, e, rd_mono hF q, RVs.mono hr hF xs vs r⟩
  | .rdl xs, v, h => by
    obtain ⟨p, vs, e, q, r⟩ := h
    exact ⟨p, vs, e, sqL_mono hF q, RVs.mono hr hF xs vs r⟩
  | .dK kvs, v, h => by
    obtain ⟨p, o, vs, e, q, r⟩ := h
    exact ⟨p, o, vs, e, hF _ _ q, RKs.mono hr hF kvs vs r⟩
  | .dT kvs, v, h => by
    obtain ⟨p, o, vs, e, q, r⟩ := h
    exact ⟨p, o, vs, e, hF _ _ q, RTs.mono hr hF kvs vs r⟩
  | .ins c fs, v, h => by
    obtain ⟨p, C, dx, vs, e, m, q, r⟩ := h
    exact ⟨p, C, dx, vs, e, m, hF _ _ q, RFs.mono hr hF fs vs r⟩
  | .ref n, v, h => by
    obtain ⟨p, q, e⟩ := h
    exact ⟨p, hr _ _ q, e⟩
theorem RVs.mono (hr : Pre ρ ρ') (hF : ∀ p u, F p = some u → F' p = some u) : ∀ (a : List AV) (v : List V), RVs B ρ F a v → RVs B ρ' F' a v
  | [], v, h => h
  | a :: r, v, h => by
    obtain ⟨x, w, e, h1, h2⟩ := h
    exact ⟨x, w, e, RV.mono hr hF a x h1, RVs.mono hr hF r w h2⟩
theorem RKs.mono (hr : Pre ρ ρ') (hF : ∀ p u, F p = some u → F' p = some u) : ∀ (a : List (Key × AV)) (v : List (Key × V)), RKs B ρ F a v → RKs B ρ' F' a v
  | [], v, h => h
  | (k, a) :: r, v, h => by
    obtain ⟨x, w, e, h1, h2⟩ := h
    exact ⟨x, w, e, RV.mono hr hF a x h1, RKs.mono hr hF r w h2⟩
theorem RTs.mono (hr : Pre ρ ρ') (hF : ∀ p u, F p = some u → F' p = some u) : ∀ (a : List (List Key × AV)) (v : List (List Key × V)), RTs B ρ F a v → RTs B ρ' F' a v
  | [], v, h => h
  | (k, a) :: r, v, h => by
    obtain ⟨x, w, e, h1, h2⟩ := h
    exact ⟨x, w, e, RV.mono hr hF a x h1, RTs.mono hr hF r w h2⟩
theorem RFs.mono (hr : Pre ρ ρ') (hF : ∀ p u, F p = some u → F' p = some u) : ∀ (a : List (Str × AV)) (v : List (Str × V)), RFs B ρ F a v → RFs B ρ' F' a v
  | [], v, h => h
  | (k, a) :: r, v, h => by
    obtain ⟨x, w, e, h1, h2⟩ := h
    exact ⟨x, w, e, RV.mono hr hF a x h1, RFs.mono hr hF r w h2⟩
end
end
end S3
end
section
set_option Elab.async false
set_option linter.all false
set_option maxRecDepth 100000
set_option maxHeartbeats 4000000
namespace S3
open PySem PySem.Spec PyProof.Rows L2
section
variable (B : Bx) (ρ : List Addr) (F : Hp)
def OU : AO → HO → Prop
  | .lst xs, u => ∃ vs, u = .lst vs ∧ RVs B ρ F xs vs
  | .dK kvs, u => ∃ ws, u = .dK ws ∧ RKs B ρ F kvs ws
  | .dT kvs, u => ∃ ws, u = .dT ws ∧ RTs B ρ F kvs ws
  | .ins c fs, u => ∃ C dx ws, u = .ins C dx ws ∧ B.mg c = some (.ref C) ∧ RFs B ρ F fs ws
  | .lck o, u => False
def OR (H : Hp) (p : Addr) : AO → Prop
  | .lck (.lck o) => ∃ (_ : Unit) (u : HO), F p = some u ∧ H p = some u ∧ o = .lst [] ∧ ((∃ ob w, u = .frz ob w) ∨ ∃ C dx ws, u = .ins C dx ws)
  | .lck o => ∃ ob u, H p = some (.frz ob u) ∧ OU B ρ F o u
  | o => ∃ u, H p = some u ∧ OU B ρ F o u
/-- the tree heap h tells what is tracked -/
structure HR (h : AH) (H : Hp) : Prop where
  sub : ∀ p u, F p = some u → H p = some u
  len : ρ.length = h.length
  nd : ρ.Nodup
  sep : ∀ (i : Nat) (p : Addr), ρ[i]? = some p → (∀ o, h[i]? ≠ some (.lck (.lck o))) → F p = none
  obj : ∀ (i : Nat) (p : Addr) (o : AO), ρ[i]? = some p → h[i]? = some o → OR B ρ F H p o
  tab : LamX.Tabs B.T H
  ntb : ∀ p ps, F p ≠ some (.tbl ps)
def SR (s : List (Option AV)) (σ : L2.St) : Prop := s.length = σ.length ∧ ∀ (i : Nat) (a : AV), s[i]? = some (some a) → ∃ v, σ[i]? = some (some v) ∧ RV B ρ F a v
/-- the dict of an exception, if it has one, stands in the heap -/
def dOk (H : Hp) : Option Addr → Prop
  | none => True
  | some dx => ∃ ws, H dx = some (.xd ws)
def ER (c : Str) (fs : List (Str × AV)) (cls : Value) (d : Option Addr) (H : Hp) : Prop :=
  ∃ C, B.mg c = some (.ref C) ∧ cls = .ref C ∧ ((fs = [] ∧ dOk H d) ∨ ∃ dx ws, d = some dx ∧ H dx = some (.xd ws) ∧ RFs B ρ F fs ws)
end
/-- one state behind another -/
structure Ext (ρ : List Addr) (F H : Hp) (ρ' : List Addr) (F' H' : Hp) : Prop where
  pre : Pre ρ ρ'
  fz : ∀ p u, F p = some u → F' p = some u
  keep : ∀ p u, H p = some u → p ∉ ρ → (∀ ps, u ≠ .tbl ps) → H' p = some u
  fnew : ∀ p u, H p = some u → (∀ ps, u ≠ .tbl ps) → (∀ xs, u ≠ .tup xs) → p ∉ ρ → F p = none → F' p = none
  rnew : ∀ p u, H p = some u → (∀ ps, u ≠ .tbl ps) → p ∉ ρ → p ∉ ρ'
  lk : ∀ p o u, H p = some (.frz o u) → H' p = some (.frz o u)
  fnl : ∀ p o u, H p = some (.frz o u) → F p = none → F' p = none
section
variable {B : Bx} {ρ ρ' ρ1 : List Addr} {F F' F1 H H' H1 : Hp} {h h' : AH}
theorem Ext.refl : Ext ρ F H ρ F H := ⟨fun _ _ e => e, fun _ _ e => e, fun _ _ e _ _ => e, fun _ _ _ _ _ _ f => f, fun _ _ _ _ n => n, fun _ _ _ e => e, fun _ _ _ _ f => f⟩
theorem Ext.trans (a : Ext ρ F H ρ1 F1 H1) (b : Ext ρ1 F1 H1 ρ' F' H') : Ext ρ F H ρ' F' H' where
  pre := fun i p e => b.pre i p (a.pre i p e)
  fz := fun p u e => b.fz p u (a.fz p u e)
  keep := fun p u e n nt => b.keep p u (a.keep p u e n nt) (a.rnew p u e nt n) nt
  fnew := fun p u e nt tu n f => b.fnew p u (a.keep p u e n nt) nt tu (a.rnew p u e nt n) (a.fnew p u e nt tu n f)
  rnew := fun p u e nt n => b.rnew p u (a.keep p u e n nt) nt (a.rnew p u e nt n)
  lk := fun p o u e => b.lk p o u (a.lk p o u e)
  fnl := fun p o u e f => b.fnl p o u (a.lk p o u e) (a.fnl p o u e f)
theorem OU.mono (hr : Pre ρ ρ') (hF : ∀ p u, F p = some u → F' p = some u) {o : AO} {u : HO} (x : OU B ρ F o u) : OU B ρ' F' o u := by
  cases o with
  | lst xs => obtain ⟨vs, e, r⟩ := x; exact ⟨vs, e, RVs.mono hr hF _ _ r⟩
  | dK xs => obtain ⟨vs, e, r⟩ := x; exact ⟨vs, e, RKs.mono hr hF _ _ r⟩
  | dT xs => obtain ⟨vs, e, r⟩ := x; exact ⟨vs, e, RTs.mono hr hF _ _ r⟩
  | ins c fs => obtain ⟨C, dx, ws, e, m, r⟩ := x; exact ⟨C, dx, ws, e, m, RFs.mono hr hF _ _ r⟩
  | lck o => exact x
theorem OU.kind {o : AO} {u : HO} (x : OU B ρ F o u) : (∀ ps, u ≠ .tbl ps) ∧ (∀ φ, u ≠ .ext φ) ∧ (∀ ob w, u ≠ .frz ob w) ∧ ∀ xs, u ≠ .tup xs := by
  cases o with
  | lst xs => obtain ⟨vs, e, r⟩ := x; subst e; exact ⟨(fun _ z => nomatch z), (fun _ z => nomatch z), (fun _ _ z => nomatch z), (fun _ z => nomatch z)⟩
  | dK xs => obtain ⟨vs, e, r⟩ := x; subst e; exact ⟨(fun _ z => nomatch z), (fun _ z => nomatch z), (fun _ _ z => nomatch z), (fun _ z => nomatch z)⟩
  | dT xs => obtain ⟨vs, e, r⟩ := x; subst e; exact ⟨(fun _ z => nomatch z), (fun _ z => nomatch z), (fun _ _ z => nomatch z), (fun _ z => nomatch z)⟩
  | ins c fs => obtain ⟨C, dx, ws, e, m, r⟩ := x; subst e; exact ⟨(fun _ z => nomatch z), (fun _ z => nomatch z), (fun _ _ z => nomatch z), (fun _ z => nomatch z)⟩
  | lck o => exact x.elim
theorem OR.there {p : Addr} {o : AO} (x : OR B ρ F H p o) : ∃ u, H p = some u ∧ (∀ ps, u ≠ .tbl ps) ∧ ∀ φ, u ≠ .ext φ := by
  cases o with
  | lck o =>
    cases o with
    | lck o => obtain ⟨ob, u, _, e, _, g⟩ := x; rcases g with ⟨_, _, rfl⟩ | ⟨_, _, _, rfl⟩ <;> exact ⟨_, e, (fun _ z => nomatch z), (fun _ z => nomatch z)⟩
    | _ => obtain ⟨ob, u, e, _⟩ := x; exact ⟨_, e, (fun _ z => nomatch z), (fun _ z => nomatch z)⟩
  | lst xs => obtain ⟨u, e, k⟩ := x; exact ⟨u, e, k.kind.1, k.kind.2.1⟩
  | dK xs => obtain ⟨u, e, k⟩ := x; exact ⟨u, e, k.kind.1, k.kind.2.1⟩
  | dT xs => obtain ⟨u, e, k⟩ := x; exact ⟨u, e, k.kind.1, k.kind.2.1⟩
  | ins c fs => obtain ⟨u, e, k⟩ := x; exact ⟨u, e, k.kind.1, k.kind.2.1⟩
theorem OR.to (hr : Pre ρ ρ') (hF : ∀ p u, F p = some u → F' p = some u) {p : Addr} (e : ∀ u, H p = some u → H' p = some u) {o : AO} (x : OR B ρ F H p o) : OR B ρ' F' H' p o := by
  cases o with
  | lck o =>
    cases o with
    | lck o => obtain ⟨ob, u, f, q, g⟩ := x; exact ⟨ob, u, hF _ _ f, e _ q, g⟩
    | _ => obtain ⟨ob, u, q, k⟩ := x; exact ⟨ob, u, e _ q, k.mono hr hF⟩
  | lst xs => obtain ⟨u, q, k⟩ := x; exact ⟨u, e _ q, k.mono hr hF⟩
  | dK xs => obtain ⟨u, q, k⟩ := x; exact ⟨u, e _ q, k.mono hr hF⟩
  | dT xs => obtain ⟨u, q, k⟩ := x; exact ⟨u, e _ q, k.mono hr hF⟩
  | ins c fs => obtain ⟨u, q, k⟩ := x; exact ⟨u, e _ q, k.mono hr hF⟩
theorem SR.mono (hr : Pre ρ ρ') (hF : ∀ p u, F p = some u → F' p = some u) {s : List (Option AV)} {σ : L2.St} (x : SR B ρ F s σ) : SR B ρ' F' s σ :=
  ⟨x.1, fun i a e => by
    obtain ⟨v, e1, r⟩ := x.2 i a e
    exact ⟨v, e1, RV.mono hr hF _ _ r⟩⟩
theorem SR.ext (x : Ext ρ F H ρ' F' H') {s : List (Option AV)} {σ : L2.St} (y : SR B ρ F s σ) : SR B ρ' F' s σ := y.mono x.pre x.fz
theorem RV.ext (x : Ext ρ F H ρ' F' H') {a : AV} {v : V} (y : RV B ρ F a v) : RV B ρ' F' a v := RV.mono x.pre x.fz _ _ y
theorem RVs.ext (x : Ext ρ F H ρ' F' H') {a : List AV} {v : List V} (y : RVs B ρ F a v) : RVs B ρ' F' a v := RVs.mono x.pre x.fz _ _ y
theorem SR.set {s : List (Option AV)} {σ : L2.St} (x : SR B ρ F s σ) {a : AV} {v : V} (r : RV B ρ F a v) (i : Nat) : SR B ρ F (s.set i (some a)) (σ.set i (some v)) := by
  refine ⟨by rw [List.length_set, List.length_set]; exact x.1, fun j b e => ?_⟩
  by_cases hj : i = j
  · subst hj
    have hl : i < s.length := by
      have := (List.getElem?_eq_some_iff.mp e).1
      rw [List.length_set] at this
      exact this
    rw [List.getElem?_set_self hl] at e
    cases e
    have hl2 : i < σ.length := by rw [← x.1]; exact hl
    exact ⟨v, List.getElem?_set_self hl2, r⟩
  · rw [List.getElem?_set_ne hj] at e
    obtain ⟨w, e1, r1⟩ := x.2 j b e
    exact ⟨w, by rw [List.getElem?_set_ne hj]; exact e1, r1⟩
theorem HR.at (x : HR B ρ F h H) {p : Addr} (m : p ∈ ρ) : ∃ (i : Nat) (o : AO), ρ[i]? = some p ∧ h[i]? = some o ∧ OR B ρ F H p o := by
  obtain ⟨i, hi, e⟩ := List.getElem_of_mem m
  have e1 : ρ[i]? = some p := by rw [List.getElem?_eq_getElem hi, e]
  have hi2 : i < h.length := by rw [← x.len]; exact hi
  exact ⟨i, h[i], e1, List.getElem?_eq_getElem hi2, x.obj i p _ e1 (List.getElem?_eq_getElem hi2)⟩
theorem HR.out (x : HR B ρ F h H) {p : Addr} (e : H p = none) : p ∉ ρ := fun m => by
  obtain ⟨i, o, _, _, r⟩ := x.at m
  obtain ⟨u, e1, _⟩ := r.there
  rw [e] at e1
  cases e1
theorem HR.fnone (x : HR B ρ F h H) {p : Addr} (e : H p = none) : F p = none := by
  cases q : F p with
  | none => rfl
  | some u =>
    have z := x.sub p u q
    rw [e] at z
    cases z
theorem HR.gotR (x : HR B ρ F h H) {p : Addr} {u : HO} (q : L2.Rd F p u) : L2.Rd H p u := by
  rcases q with q | ⟨o, q⟩
  · exact .inl (x.sub _ _ q)
  · exact .inr ⟨o, x.sub _ _ q⟩
theorem HR.at' (x : HR B ρ F h H) {i : Nat} {p : Addr} (e : ρ[i]? = some p) : ∃ o, h[i]? = some o ∧ OR B ρ F H p o := by
  have hi : i < ρ.length := (List.getElem?_eq_some_iff.mp e).1
  have hi2 : i < h.length := by rw [← x.len]; exact hi
  exact ⟨h[i], List.getElem?_eq_getElem hi2, x.obj i p _ e (List.getElem?_eq_getElem hi2)⟩
theorem upd_old {H : Hp} {p : Addr} {u : HO} (n : H p = none) : ∀ b o, H b = some o → upd H p u b = some o := fun b o e => by
  rw [upd_ne (ne_of_none e n)]
  exact e
/-- a new thing that never changes -/
theorem HR.newF (x : HR B ρ F h H) {p : Addr} (n : H p = none) (u : HO) (nt : ∀ ps, u ≠ .tbl ps := by intro _ z; cases z) : HR B ρ (upd F p u) h (upd H p u) ∧ Ext ρ F H ρ (upd F p u) (upd H p u) := by
  have fn := x.fnone n
  have fz : ∀ q w, F q = some w → upd F p u q = some w := upd_old fn
  refine ⟨⟨fun q w e => ?_, x.len, x.nd, fun i q m g => ?_, fun i q o e1 e2 => OR.to (fun _ _ e => e) fz (fun w e => upd_old n _ _ e) (x.obj i q o e1 e2), x.tab.ext (upd_old n), fun q ps e => by
    by_cases hq : q = p
    · rw [hq, upd_same] at e
      exact nt _ (Option.some.inj e)
    · rw [upd_ne hq] at e
      exact x.ntb q ps e⟩,
    ⟨fun _ _ e => e, fz, fun q w e _ _ => upd_old n _ _ e, fun q w e _ _ _ f => by rw [upd_ne (ne_of_none e n)]; exact f, fun _ _ _ _ m => m, fun q o w e => upd_old n _ _ e, fun q o w e f => by rw [upd_ne (ne_of_none e n)]; exact f⟩⟩
  · by_cases hq : q = p
    · subst hq
      rw [upd_same] at e ⊢
      exact e
    · rw [upd_ne hq] at e ⊢
      exact x.sub q w e
  · have hq : q ≠ p := fun z => x.out n (z ▸ List.mem_of_getElem? m)
    rw [upd_ne hq]
    exact x.sep i q m g
theorem pre_snoc (ρ : List Addr) (p : Addr) : Pre ρ (ρ ++ [p]) := fun i q e => by
  rw [List.getElem?_append_left (List.getElem?_eq_some_iff.mp e).1]
  exact e
/-- a new thing that may change -/
theorem HR.newM (x : HR B ρ F h H) {p : Addr} (n : H p = none) {o : AO} {u : HO} (r : OU B ρ F o u) : HR B (ρ ++ [p]) F (h ++ [o]) (upd H p u) ∧ Ext ρ F H (ρ ++ [p]) F (upd H p u) := by
  have no : p ∉ ρ := x.out n
  refine ⟨⟨fun q w e => ?_, by rw [List.length_append, List.length_append, x.len]; rfl, ?_, fun i q m g => ?_, fun i q ob e1 e2 => ?_, x.tab.ext (upd_old n), x.ntb⟩,
    ⟨pre_snoc ρ p, fun _ _ e => e, fun q w e _ _ => upd_old n _ _ e, fun _ _ _ _ _ _ f => f, fun q w e _ m z => ?_, fun q o w e => upd_old n _ _ e, fun _ _ _ _ f => f⟩⟩
  · exact upd_old n _ _ (x.sub q w e)
  · rw [List.nodup_append]
    refine ⟨x.nd, by simp, fun a ha b hb => ?_⟩
    rw [List.mem_singleton] at hb
    subst hb
    exact fun z => no (z ▸ ha)
  · by_cases hi : i < ρ.length
    · rw [List.getElem?_append_left hi] at m
      exact x.sep i q m fun o z => g o (by rw [List.getElem?_append_left (by rw [← x.len]; exact hi)]; exact z)
    · have hm := List.mem_of_getElem? m
      rw [List.getElem?_append_right (Nat.le_of_not_lt hi)] at m
      have hm := List.mem_of_getElem? m
      rw [List.mem_singleton] at hm
      subst hm
      exact x.fnone n
  · by_cases hi : i < ρ.length
    · rw [List.getElem?_append_left hi] at e1
      rw [List.getElem?_append_left (by rw [← x.len]; exact hi)] at e2
      exact OR.to (pre_snoc ρ p) (fun _ _ e => e) (fun w e => upd_old n _ _ e) (x.obj i q ob e1 e2)
    · have hi' : ρ.length ≤ i := Nat.le_of_not_lt hi
      rw [List.getElem?_append_right hi'] at e1
      rw [List.getElem?_append_right (by rw [← x.len]; exact hi'), ← x.len] at e2
      cases k : i - ρ.length with
      | zero =>
        rw [k] at e1 e2
        cases e1
        cases e2
        have r' := r.mono (ρ' := ρ ++ [p]) (F' := F) (pre_snoc ρ p) (fun _ _ e => e)
        cases o with
        | lck o => exact r.elim
        | lst xs => exact ⟨u, upd_same, r'⟩
        | dK xs => exact ⟨u, upd_same, r'⟩
        | dT xs => exact ⟨u, upd_same, r'⟩
        | ins c fs => exact ⟨u, upd_same, r'⟩
      | succ m =>
        rw [k] at e1
        cases e1
  · rcases List.mem_append.mp z with z | z
    · exact m z
    · rw [List.mem_singleton] at z
      rw [z, n] at e
      cases e
theorem tabs_write {H : Hp} {p : Addr} {u u' : HO} (e : H p = some u) (n1 : ∀ ps, u ≠ .tbl ps) (n2 : ∀ φ, u ≠ .ext φ) {T : List (Addr × Str)} (t : LamX.Tabs T H) : LamX.Tabs T (upd H p u') := fun q hq => by
  obtain ⟨ps, h1, h2, h3⟩ := t q hq
  have ne : q.1 ≠ p := fun z => by
    rw [z, e] at h1
    exact n1 _ (Option.some.inj h1)
  refine ⟨ps, by rw [upd_ne ne]; exact h1, h2, fun pos cv hc => ?_⟩
  obtain ⟨c, e1, e2⟩ := h3 pos cv hc
  refine ⟨c, e1, ?_⟩
  have ne2 : c ≠ p := fun z => by
    rw [z, e] at e2
    exact n2 _ (Option.some.inj e2)
  rw [upd_ne ne2]
  exact e2
/-- a thing that may change is written -/
theorem HR.writeN (x : HR B ρ F h H) {i : Nat} {p : Addr} (e : ρ[i]? = some p) {o : AO} {u u1 : HO} (r : OR B ρ F (upd H p u) p o) (eu : H p = some u1) (nk : ∀ ob w, u1 ≠ .frz ob w) (hn : ∀ o', h[i]? ≠ some (.lck (.lck o'))) : HR B ρ F (h.set i o) (upd H p u) ∧ Ext ρ F H ρ F (upd H p u) := by
  have m : p ∈ ρ := List.mem_of_getElem? e
  obtain ⟨o0, eo, r0⟩ := x.at' e
  obtain ⟨u0, e0, n1, n2⟩ := r0.there
  have fp : F p = none := x.sep i p e hn
  refine ⟨⟨fun q w eq => ?_, by rw [List.length_set]; exact x.len, x.nd, fun j q m g => ?_, fun j q ob e1 e2 => ?_, tabs_write e0 n1 n2 x.tab, x.ntb⟩,
    ⟨fun _ _ e => e, fun _ _ e => e, fun q w eq nq _ => ?_, fun _ _ _ _ _ _ f => f, fun _ _ _ _ m => m, fun q ob w eq => ?_, fun _ _ _ _ f => f⟩⟩
  · have hq : q ≠ p := fun z => by
      rw [← z, eq] at fp
      cases fp
    rw [upd_ne hq]
    exact x.sub q w eq
  · by_cases hj : i = j
    · subst hj
      rw [e] at m
      cases m
      exact fp
    · exact x.sep j q m fun o z => g o (by rw [List.getElem?_set_ne hj]; exact z)
  · by_cases hj : i = j
    · subst hj
      rw [e] at e1
      cases e1
      have hl : i < h.length := (List.getElem?_eq_some_iff.mp eo).1
      rw [List.getElem?_set_self hl] at e2
      cases e2
      exact r
    · rw [List.getElem?_set_ne hj] at e2
      have hq : q ≠ p := fun z => by
        subst z
        exact hj (nd_ix x.nd e e1)
      exact OR.to (fun _ _ e => e) (fun _ _ e => e) (fun w e => by rw [upd_ne hq]; exact e) (x.obj j q ob e1 e2)
  · rw [upd_ne (fun z => nq (by rw [z]; exact m))]
    exact eq
  · have hq : q ≠ p := fun z => by
      rw [z, eu] at eq
      exact nk _ _ (Option.some.inj eq)
    rw [upd_ne hq]
    exact eq
theorem HR.write (x : HR B ρ F h H) {i : Nat} {p : Addr} (e : ρ[i]? = some p) {o : AO} {u u1 : HO} (r : OR B ρ F (upd H p u) p o) (eu : H p = some u1) (nk : ∀ ob w, u1 ≠ .frz ob w := by intro _ _ z; cases z) (ni : ∀ C dx ws, u1 ≠ .ins C dx ws := by intro _ _ _ z; cases z) : HR B ρ F (h.set i o) (upd H p u) ∧ Ext ρ F H ρ F (upd H p u) := by
  refine x.writeN e r eu nk fun o' z => ?_
  have r0 := x.obj i p _ e z
  obtain ⟨_, w, _, k, _, g⟩ := r0
  rw [eu] at k
  have k := Option.some.inj k
  rcases g with ⟨_, _, g⟩ | ⟨_, _, _, g⟩
  · exact nk _ _ (k.trans g)
  · exact ni _ _ _ (k.trans g)
end
end S3
end
section
set_option Elab.async false
set_option linter.all false
set_option maxRecDepth 100000
set_option maxHeartbeats 4000000
namespace S3
open PySem PySem.Spec PyProof.Rows L2
abbrev Sl := List (Option AV)
inductive Ss where
  | nx (s : Sl) (h : AH) | rt (a : AV) (h : AH) | bk (s : Sl) (h : AH) | ct (s : Sl) (h : AH) | exc (s : Sl) (c : Str) (fs : List (Str × AV)) (h : AH) | stk
abbrev ME := Sl → AH → Rs AV
abbrev MT := Sl → AH → Rs Bool
abbrev MA := Sl → AH → Rs (List AV)
abbrev MS := Sl → AH → Ss
abbrev Rl (α β : Type) := List Addr → Hp → α → β → Prop
abbrev WK := Value → Option Addr → Hp → Prop
section
variable (B : Bx)
def Post {α β : Type} (R : Rl α β) (ρ : List Addr) (F H : Hp) (r : Rs α) (Q : β → Hp → Prop) (Wx : WK) : Prop := match r with
  | .ok a h' => ∀ ρ' F' H' v, Ext ρ F H ρ' F' H' → HR B ρ' F' h' H' → R ρ' F' a v → Q v H'
  | .exc c fs h' => ∀ ρ' F' H' cls d, Ext ρ F H ρ' F' H' → HR B ρ' F' h' H' → ER B ρ' F' c fs cls d H' → Wx cls d H'
  | .stk => False
def PostS (ρ : List Addr) (F H : Hp) (r : Ss) (D : Ends) (W : WX) : Prop := match r with
  | .nx s' h' => ∀ ρ' F' H' σ', Ext ρ F H ρ' F' H' → HR B ρ' F' h' H' → SR B ρ' F' s' σ' → D.nx σ' H'
  | .bk s' h' => ∀ ρ' F' H' σ', Ext ρ F H ρ' F' H' → HR B ρ' F' h' H' → SR B ρ' F' s' σ' → D.bk σ' H'
  | .ct s' h' => ∀ ρ' F' H' σ', Ext ρ F H ρ' F' H' → HR B ρ' F' h' H' → SR B ρ' F' s' σ' → D.ct σ' H'
  | .rt a h' => ∀ ρ' F' H' v, Ext ρ F H ρ' F' H' → HR B ρ' F' h' H' → RV B ρ' F' a v → D.rt v H'
  | .exc s' c fs h' => ∀ ρ' F' H' σ' cls d, Ext ρ F H ρ' F' H' → HR B ρ' F' h' H' → SR B ρ' F' s' σ' → ER B ρ' F' c fs cls d H' → W cls d σ' H'
  | .stk => False
def tmG {α β : Type} (R : Rl α β) (W : WX) (m : Sl → AH → Rs α) : L2.St → Hp → (β → Hp → Prop) → Prop := fun σ H Q =>
  ∃ ρ F h s, SR B ρ F s σ ∧ HR B ρ F h H ∧ Post B R ρ F H (m s h) Q (fun cls d H' => W cls d σ H')
def RE : Rl Bool Bool := fun _ _ a b => a = b
abbrev tm (W : WX) (m : ME) : TE := tmG B (RV B) W m
abbrev tmT (W : WX) (m : MT) : TT := tmG B RE W m
abbrev tmA (W : WX) (m : MA) : TA := tmG B (RVs B) W m
def tms (W : WX) (m : MS) : TS := fun D σ H => ∃ ρ F h s, SR B ρ F s σ ∧ HR B ρ F h H ∧ PostS B ρ F H (m s h) D W
end
/-- the judgements: the model does what the plain function says -/
abbrev SE (B : Bx) (X : Cx) (W : WX) (e : Expr) (m : ME) : Prop := PE X e (tm B W m)
abbrev STt (B : Bx) (X : Cx) (W : WX) (e : Expr) (m : MT) : Prop := PT X e (tmT B W m)
abbrev SW (B : Bx) (X : Cx) (W : WX) (e : Expr) (m : MT) : Prop := PW X e (tmT B W m)
abbrev SA (B : Bx) (X : Cx) (W : WX) (es : List Expr) (m : MA) : Prop := PA X es (tmA B W m)
abbrev SS (B : Bx) (X : Cx) (W : WX) (st : Stmt) (m : MS) : Prop := PS X st (tms B W m)
abbrev SSs (B : Bx) (X : Cx) (W : WX) (st : List Stmt) (m : MS) : Prop := PSs X st (tms B W m)
section
variable {B : Bx} {ρ ρ1 : List Addr} {F F1 H H1 : Hp} {α β γ δ : Type} {R : Rl α β} {R2 : Rl γ δ} {Wx : WK}
theorem Post.ext {r : Rs α} {Q : β → Hp → Prop} (e : Ext ρ F H ρ1 F1 H1) (p : Post B R ρ F H r Q Wx) : Post B R ρ1 F1 H1 r Q Wx := by
  cases r with
  | ok a h => exact fun ρ' F' H' v x y z => p ρ' F' H' v (e.trans x) y z
  | exc c fs h => exact fun ρ' F' H' cls d x y z => p ρ' F' H' cls d (e.trans x) y z
  | stk => exact p
theorem Post.andThen {r : Rs α} {k : α → AH → Rs γ} {Q : δ → Hp → Prop} {Q1 : β → Hp → Prop} (p : Post B R2 ρ F H (r.bind k) Q Wx)
    (q : ∀ a h1 ρ1 F1 H1 x, r = .ok a h1 → Ext ρ F H ρ1 F1 H1 → HR B ρ1 F1 h1 H1 → R ρ1 F1 a x → Post B R2 ρ1 F1 H1 (k a h1) Q Wx → Q1 x H1) : Post B R ρ F H r Q1 Wx := by
  cases r with
  | ok a h => exact fun ρ' F' H' v x y z => q a h ρ' F' H' v rfl x y z (Post.ext x p)
  | exc c fs h => exact p
  | stk => exact p
theorem PostS.ext {r : Ss} {D : Ends} {W : WX} (e : Ext ρ F H ρ1 F1 H1) (p : PostS B ρ F H r D W) : PostS B ρ1 F1 H1 r D W := by
  cases r with
  | nx s h => exact fun ρ' F' H' v x y z => p ρ' F' H' v (e.trans x) y z
  | bk s h => exact fun ρ' F' H' v x y z => p ρ' F' H' v (e.trans x) y z
  | ct s h => exact fun ρ' F' H' v x y z => p ρ' F' H' v (e.trans x) y z
  | rt s h => exact fun ρ' F' H' v x y z => p ρ' F' H' v (e.trans x) y z
  | exc s c fs h => exact fun ρ' F' H' σ' cls d x y z w => p ρ' F' H' σ' cls d (e.trans x) y z w
  | stk => exact p
def Rs.toS {α : Type} (r : Rs α) (s : Sl) (k : α → AH → Ss) : Ss := match r with
  | .ok a h => k a h
  | .exc c fs h => .exc s c fs h
  | .stk => .stk
theorem PostS.expr {r : Rs α} {s : Sl} {σ : L2.St} {k : α → AH → Ss} {D : Ends} {W : WX} {Q1 : β → Hp → Prop} (sr : SR B ρ F s σ) (p : PostS B ρ F H (r.toS s k) D W)
    (q : ∀ a h1 ρ1 F1 H1 x, r = .ok a h1 → Ext ρ F H ρ1 F1 H1 → HR B ρ1 F1 h1 H1 → R ρ1 F1 a x → SR B ρ1 F1 s σ → PostS B ρ1 F1 H1 (k a h1) D W → Q1 x H1) : Post B R ρ F H r Q1 (fun cls d H' => W cls d σ H') := by
  cases r with
  | ok a h => exact fun ρ' F' H' v x y z => q a h ρ' F' H' v rfl x y z (sr.ext x) (PostS.ext x p)
  | exc c fs h => exact fun ρ' F' H' cls d x y z => p ρ' F' H' σ cls d x y (sr.ext x) z
  | stk => exact p
end
section
variable {X : Cx} {e : Expr} {es : List Expr} {st : Stmt} {sts : List Stmt}
theorem PE.imp {t t' : TE} (h : PE X e t) (w : ∀ σ H Q, t' σ H Q → t σ H Q) : PE X e t' := ⟨fun pins s σ H Q I q => h.run pins s σ H Q I (w σ H Q q)⟩
theorem PT.imp {t t' : TT} (h : PT X e t) (w : ∀ σ H Q, t' σ H Q → t σ H Q) : PT X e t' := ⟨fun pins s σ H Q I q => h.run pins s σ H Q I (w σ H Q q)⟩
theorem PW.imp {t t' : TT} (h : PW X e t) (w : ∀ σ H Q, t' σ H Q → t σ H Q) : PW X e t' := ⟨fun wh pins s σ H Q I q => h.run wh pins s σ H Q I (w σ H Q q)⟩
theorem PA.imp {t t' : TA} (h : PA X es t) (w : ∀ σ H Q, t' σ H Q → t σ H Q) : PA X es t' := ⟨fun pos pins s σ H Q I q => h.run pos pins s σ H Q I (w σ H Q q)⟩
theorem PS.imp {t t' : TS} (h : PS X st t) (w : ∀ D σ H, t' D σ H → t D σ H) : PS X st t' := ⟨fun pins s σ H D I q => h.run pins s σ H D I (w D σ H q)⟩
theorem PSs.imp {t t' : TS} (h : PSs X sts t) (w : ∀ D σ H, t' D σ H → t D σ H) : PSs X sts t' := ⟨fun pins s σ H D I q => h.run pins s σ H D I (w D σ H q)⟩
end
section
variable {B : Bx} {X : Cx} {W : WX}
def mVar (i : Nat) : ME := fun s h => match s[i]? with
  | some (some a) => .ok a h
  | _ => .stk
def mC (a : AV) : ME := fun _ h => .ok a h
theorem se_var {i : Nat} {x : Str} {pos : Pos} (hN : X.N[i]? = some x) (hv : Vis X.env.scope x) (hd : (x == ("__debug__" : Str)) = false := by decide) (hcd : (x == ("__classdict__" : Str)) = false := by decide) : SE B X W (.Name x pos) (mVar i) := by
  refine PE.imp (pe_var hN hv hd hcd) fun σ H Q h => ?_
  obtain ⟨ρ, F, h, s, sr, hr, p⟩ := h
  unfold mVar at p
  split at p
  · rename_i a ea
    obtain ⟨v, ev, r⟩ := sr.2 i a ea
    exact ⟨v, ev, p ρ F H v Ext.refl hr r⟩
  · exact p.elim
theorem se_int {i j pos} : SE B X W (.Constant (.int i) j pos) (mC (.int i)) := PE.imp pe_int fun σ H Q ⟨ρ, F, h, s, sr, hr, p⟩ => p ρ F H _ Ext.refl hr rfl
theorem se_bl {i j pos} : SE B X W (.Constant (.bool i) j pos) (mC (.bl i)) := PE.imp pe_bl fun σ H Q ⟨ρ, F, h, s, sr, hr, p⟩ => p ρ F H _ Ext.refl hr rfl
theorem se_str {i j pos} : SE B X W (.Constant (.str i) j pos) (mC (.str i)) := PE.imp pe_str fun σ H Q ⟨ρ, F, h, s, sr, hr, p⟩ => p ρ F H _ Ext.refl hr rfl
abbrev G1 := AV → AH → Option AV
abbrev G2 := AV → AV → AH → Option AV
abbrev GL := List AV → AH → Option AV
def ofO (o : Option AV) (h : AH) : Rs AV := match o with
  | some c => .ok c h
  | none => .stk
def rm2 (B : Bx) (g : G2) : R2 := fun x y H Q => ∃ ρ F h a b c, HR B ρ F h H ∧ RV B ρ F a x ∧ RV B ρ F b y ∧ g a b h = some c ∧ ∀ ρ' F' H' z, Ext ρ F H ρ' F' H' → HR B ρ' F' h H' → RV B ρ' F' c z → Q z H'
def rmL (B : Bx) (g : GL) : List V → Hp → VK → Prop := fun x H Q => ∃ ρ F h a c, HR B ρ F h H ∧ RVs B ρ F a x ∧ g a h = some c ∧ ∀ ρ' F' H' z, Ext ρ F H ρ' F' H' → HR B ρ' F' h H' → RV B ρ' F' c z → Q z H'
def mBin (g : G2) (ma mb : ME) : ME := fun s h => (ma s h).bind fun a h1 => (mb s h1).bind fun b h2 => ofO (g a b h2) h2
def mUn (g : G1) (ma : ME) : ME := fun s h => (ma s h).bind fun a h1 => ofO (g a h1) h1
def mFn (g : GL) (ma : MA) : ME := fun s h => (ma s h).bind fun a h1 => ofO (g a h1) h1
theorem ofO_post {ρ : List Addr} {F H : Hp} {o : Option AV} {h : AH} {Q : VK} {Wx : WK} (p : Post B (RV B) ρ F H (ofO o h) Q Wx) : ∃ c, o = some c ∧ ∀ ρ' F' H' z, Ext ρ F H ρ' F' H' → HR B ρ' F' h H' → RV B ρ' F' c z → Q z H' := by
  cases o with
  | none => exact p.elim
  | some c => exact ⟨c, rfl, p⟩
theorem bin_imp {g : G2} {ma mb : ME} {σ : L2.St} {H : Hp} {Q : VK} (h : tm B W (mBin g ma mb) σ H Q) : tOp (rm2 B g) (tm B W ma) (tm B W mb) σ H Q := by
  obtain ⟨ρ, F, h, s, sr, hr, p⟩ := h
  refine ⟨ρ, F, h, s, sr, hr, p.andThen fun a h1 ρ1 F1 H1 x _ e1 hr1 ra p1 => ?_⟩
  refine ⟨ρ1, F1, h1, s, sr.ext e1, hr1, p1.andThen fun b h2 ρ2 F2 H2 y _ e2 hr2 rb p2 => ?_⟩
  obtain ⟨c, ec, q⟩ := ofO_post p2
  exact ⟨ρ2, F2, h2, a, b, c, hr2, ra.ext e2, rb, ec, q⟩
theorem se_op {op : Operator} {g : G2} {a b : Expr} {ma mb : ME} {pos : Pos} (ho : OpR X (binaryOp op) (rm2 B g)) (ha : SE B X W a ma) (hb : SE B X W b mb) : SE B X W (.BinOp a op b pos) (mBin g ma mb) :=
  PE.imp (pe_op ho ha hb) fun _ _ _ h => bin_imp h
theorem se_cmp {op : CmpOp} {g : G2} {a b : Expr} {ma mb : ME} {pos : Pos} (ho : OpR X (compareOp op) (rm2 B g)) (ha : SE B X W a ma) (hb : SE B X W b mb) (hm : behindInMarks op b = false := by first | exact nomark _ | rfl) : SE B X W (.Compare a [op] [b] pos) (mBin g ma mb) :=
  PE.imp (pe_cmpR ho ha hb hm) fun _ _ _ h => bin_imp h
def mTest (m : ME) : MT := fun s h => (m s h).bind fun a h1 => match a with
  | .bl b => .ok b h1
  | _ => .stk
theorem test_imp {m : ME} {t : TE} (w : ∀ (σ : L2.St) (H : Hp) (Q : VK), tm B W m σ H Q → t σ H Q) {σ : L2.St} {H : Hp} {Q : Bool → Hp → Prop} (h : tmT B W (mTest m) σ H Q) : t σ H fun x H' => ∃ k, x = .bl k ∧ Q k H' := by
  obtain ⟨ρ, F, h, s, sr, hr, p⟩ := h
  refine w σ H _ ⟨ρ, F, h, s, sr, hr, p.andThen fun a h1 ρ1 F1 H1 x _ e1 hr1 ra p1 => ?_⟩
  cases a with
  | bl b => exact ⟨b, ra, p1 ρ1 F1 H1 b Ext.refl hr1 rfl⟩
  | non => exact p1.elim
  | int _ => exact p1.elim
  | str _ => exact p1.elim
  | tup _ => exact p1.elim
  | lst _ => exact p1.elim
  | rdl _ => exact p1.elim
  | rdt _ => exact p1.elim
  | dK _ => exact p1.elim
  | dT _ => exact p1.elim
  | ins _ _ => exact p1.elim
  | ref _ => exact p1.elim
theorem st_cmp {op : CmpOp} {g : G2} {a b : Expr} {ma mb : ME} {pos : Pos} (ho : OpR X (compareOp op) (rm2 B g)) (ha : SE B X W a ma) (hb : SE B X W b mb) (hm : behindInMarks op b = false := by first | exact nomark _ | rfl) : STt B X W (.Compare a [op] [b] pos) (mTest (mBin g ma mb)) :=
  PT.imp (pt_cmpR ho ha hb hm) fun σ H Q h => test_imp (t := tOp (rm2 B g) (tm B W ma) (tm B W mb)) (fun _ _ _ h => bin_imp h) h
theorem st_val {e : Expr} {m : ME} (h : SE B X W e m) (he : ∀ whole, isTrue e X.env whole = (do let v ← whole; standAt e.pos; holding [v] (truthy v)) := by intro _; rfl) : STt B X W e (mTest m) :=
  PT.imp (pt_val h he) fun σ H Q h => test_imp (t := tm B W m) (fun _ _ _ h => h) h
def mAnd (a b : MT) : MT := fun s h => (a s h).bind fun x h1 => if x = true then b s h1 else .ok false h1
def mOr (a b : MT) : MT := fun s h => (a s h).bind fun x h1 => if x = true then .ok true h1 else b s h1
def mNot (a : MT) : MT := fun s h => (a s h).bind fun x h1 => .ok (!x) h1
theorem and_imp {a b : MT} {σ : L2.St} {H : Hp} {Q : Bool → Hp → Prop} (h : tmT B W (mAnd a b) σ H Q) : tAnd (tmT B W a) (tmT B W b) σ H Q := by
  obtain ⟨ρ, F, h, s, sr, hr, p⟩ := h
  refine ⟨ρ, F, h, s, sr, hr, p.andThen fun x h1 ρ1 F1 H1 y _ e1 hr1 ra p1 => ?_⟩
  cases ra
  cases x with
  | true => exact ⟨ρ1, F1, h1, s, sr.ext e1, hr1, p1⟩
  | false => exact p1 ρ1 F1 H1 false Ext.refl hr1 rfl
theorem or_imp {a b : MT} {σ : L2.St} {H : Hp} {Q : Bool → Hp → Prop} (h : tmT B W (mOr a b) σ H Q) : tOr (tmT B W a) (tmT B W b) σ H Q := by
  obtain ⟨ρ, F, h, s, sr, hr, p⟩ := h
  refine ⟨ρ, F, h, s, sr, hr, p.andThen fun x h1 ρ1 F1 H1 y _ e1 hr1 ra p1 => ?_⟩
  cases ra
  cases x with
  | false => exact ⟨ρ1, F1, h1, s, sr.ext e1, hr1, p1⟩
  | true => exact p1 ρ1 F1 H1 true Ext.refl hr1 rfl
theorem sw_and1 {a : Expr} {m : MT} {pos : Pos} (ha : STt B X W a m) : SW B X W (.BoolOp .And [a] pos) m := pw_and1 ha
theorem sw_or1 {a : Expr} {m : MT} {pos : Pos} (ha : STt B X W a m) : SW B X W (.BoolOp .Or [a] pos) m := pw_or1 ha
theorem sw_and {a b : Expr} {r : List Expr} {m n : MT} {pos : Pos} (ha : STt B X W a m) (hb : SW B X W (.BoolOp .And (b :: r) pos) n) : SW B X W (.BoolOp .And (a :: b :: r) pos) (mAnd m n) := PW.imp (pw_and ha hb) fun _ _ _ h => and_imp h
theorem sw_or {a b : Expr} {r : List Expr} {m n : MT} {pos : Pos} (ha : STt B X W a m) (hb : SW B X W (.BoolOp .Or (b :: r) pos) n) : SW B X W (.BoolOp .Or (a :: b :: r) pos) (mOr m n) := PW.imp (pw_or ha hb) fun _ _ _ h => or_imp h
theorem st_w {e : Expr} {m : MT} (h : SW B X W e m) : STt B X W e m := PW.pt h
theorem st_not {a : Expr} {m : MT} {pos : Pos} (ha : STt B X W a m) : STt B X W (.UnaryOp .Not a pos) (mNot m) := PT.imp (pt_not ha) fun σ H Q ⟨ρ, F, h, s, sr, hr, p⟩ => ⟨ρ, F, h, s, sr, hr, p.andThen fun x h1 ρ1 F1 H1 y _ e1 hr1 ra p1 => by
  cases ra
  exact p1 ρ1 F1 H1 _ Ext.refl hr1 rfl⟩
def mIf (c : MT) (a b : ME) : ME := fun s h => (c s h).bind fun x h1 => if x = true then a s h1 else b s h1
theorem se_if {c a b : Expr} {mc : MT} {ma mb : ME} {pos : Pos} (hc : STt B X W c mc) (ha : SE B X W a ma) (hb : SE B X W b mb) : SE B X W (.IfExp c a b pos) (mIf mc ma mb) :=
  PE.imp (pe_ifExp hc ha hb) fun σ H Q ⟨ρ, F, h, s, sr, hr, p⟩ => ⟨ρ, F, h, s, sr, hr, p.andThen fun x h1 ρ1 F1 H1 y _ e1 hr1 ra p1 => by
    cases ra
    cases x with
    | true => exact ⟨ρ1, F1, h1, s, sr.ext e1, hr1, p1⟩
    | false => exact ⟨ρ1, F1, h1, s, sr.ext e1, hr1, p1⟩⟩
def mNil : MA := fun _ h => .ok [] h
def mCons (a : ME) (r : MA) : MA := fun s h => (a s h).bind fun x h1 => (r s h1).bind fun xs h2 => .ok (x :: xs) h2
theorem sa_nil : SA B X W [] mNil := PA.imp pa_nil fun σ H Q ⟨ρ, F, h, s, sr, hr, p⟩ => p ρ F H [] Ext.refl hr rfl
theorem sa_cons {e : Expr} {es : List Expr} {m : ME} {r : MA} (ha : SE B X W e m) (hr : SA B X W es r) (hs : starEach (e :: es) X.env = (false, eval e X.env) :: starEach es X.env := by rfl) : SA B X W (e :: es) (mCons m r) :=
  PA.imp (pa_cons ha hr hs) fun σ H Q ⟨ρ, F, h, s, sr, hr, p⟩ => ⟨ρ, F, h, s, sr, hr, p.andThen fun x h1 ρ1 F1 H1 v _ e1 hr1 ra p1 =>
    ⟨ρ1, F1, h1, s, sr.ext e1, hr1, p1.andThen fun xs h2 ρ2 F2 H2 vs _ e2 hr2 rb p2 => p2 ρ2 F2 H2 (v :: vs) Ext.refl hr2 ⟨v, vs, rfl, ra.ext e2, rb⟩⟩⟩
theorem RVs.length {ρ : List Addr} {F : Hp} : ∀ {xs : List AV} {vs : List V}, RVs B ρ F xs vs → xs.length = vs.length
  | [], vs, h => by
    have h : vs = [] := h
    subst h
    rfl
  | a :: r, vs, h => by
    obtain ⟨v, w, e, _, h2⟩ := h
    subst e
    rw [List.length_cons, List.length_cons, RVs.length h2]
def gTup : GL := fun xs h => if xs.length ≤ sizeLine then some (.tup xs) else none
def gLst : GL := fun xs h => if xs.length ≤ sizeLine then some (.lst xs) else none
theorem disp_imp {m : MA} {g : GL} {σ : L2.St} {H : Hp} {Q : VK} (h : tm B W (mFn g m) σ H Q) : tmA B W m σ H fun xs H1 => rmL B g xs H1 Q := by
  obtain ⟨ρ, F, h, s, sr, hr, p⟩ := h
  refine ⟨ρ, F, h, s, sr, hr, p.andThen fun xs h1 ρ1 F1 H1 vs _ e1 hr1 ra p1 => ?_⟩
  obtain ⟨c, ec, q⟩ := ofO_post p1
  exact ⟨ρ1, F1, h1, xs, c, hr1, ra, ec, q⟩
theorem tmA_mono {m : MA} {σ : L2.St} {H : Hp} {Q Q' : List V → Hp → Prop} (h : tmA B W m σ H Q) (w : ∀ vs H1, Q vs H1 → Q' vs H1) : tmA B W m σ H Q' := by
  obtain ⟨ρ, F, h, s, sr, hr, p⟩ := h
  refine ⟨ρ, F, h, s, sr, hr, ?_⟩
  revert p
  cases m s h with
  | ok a h' => exact fun p ρ' F' H' v x y z => w _ _ (p ρ' F' H' v x y z)
  | exc c fs h' => exact fun p => p
  | stk => exact fun p => p
theorem se_tup {es : List Expr} {m : MA} {k : Nat} {pos : Pos} (h : SA B X W es m) : SE B X W (.Tuple es k pos) (mFn gTup m) := PE.imp (pe_tup h) fun σ H Q q => tmA_mono (disp_imp q) fun vs H1 ⟨ρ, F, h, xs, c, hr, ra, ec, q⟩ => by
  unfold gTup at ec
  split at ec
  · rename_i hz
    cases ec
    refine ⟨by rw [← RVs.length ra]; exact hz, fun p hp => ?_⟩
    obtain ⟨hr', ex⟩ := hr.newF hp (.tup vs)
    exact q _ _ _ _ ex hr' ⟨p, vs, rfl, upd_same, ra.ext ex⟩
  · cases ec
theorem se_lst {es : List Expr} {m : MA} {pos : Pos} (h : SA B X W es m) : SE B X W (.List es pos) (mFn gLst m) := PE.imp (pe_lst h) fun σ H Q q => tmA_mono (disp_imp q) fun vs H1 ⟨ρ, F, h, xs, c, hr, ra, ec, q⟩ => by
  unfold gLst at ec
  split at ec
  · rename_i hz
    cases ec
    refine ⟨by rw [← RVs.length ra]; exact hz, fun p hp => ?_⟩
    obtain ⟨hr', ex⟩ := hr.newF hp (.lst vs)
    exact q _ _ _ _ ex hr' ⟨p, vs, rfl, .inl upd_same, ra.ext ex⟩
  · cases ec
/-- a list that will change -/
def mLstM (m : MA) : ME := fun s h => (m s h).bind fun xs h1 => if xs.length ≤ sizeLine then .ok (.ref h1.length) (h1 ++ [.lst xs]) else .stk
theorem getElem?_snoc {α : Type} (l : List α) (x : α) : (l ++ [x])[l.length]? = some x := by
  rw [List.getElem?_append_right (Nat.le_refl _), Nat.sub_self]
  rfl
theorem se_lstM {es : List Expr} {m : MA} {pos : Pos} (h : SA B X W es m) : SE B X W (.List es pos) (mLstM m) := PE.imp (pe_lst h) fun σ H Q ⟨ρ, F, h, s, sr, hr, p⟩ => ⟨ρ, F, h, s, sr, hr, p.andThen fun xs h1 ρ1 F1 H1 vs _ e1 hr1 ra p1 => by
  split at p1
  · rename_i hz
    refine ⟨by rw [← RVs.length ra]; exact hz, fun p hp => ?_⟩
    obtain ⟨hr', ex⟩ := hr1.newM hp (o := .lst xs) (u := .lst vs) ⟨vs, rfl, ra⟩
    exact p1 _ _ _ _ ex hr' ⟨p, by rw [← hr1.len]; exact getElem?_snoc _ _, rfl⟩
  · exact p1.elim⟩
end
end S3
end
section
set_option Elab.async false
set_option linter.all false
set_option maxRecDepth 100000
set_option maxHeartbeats 4000000
namespace S3
open PySem PySem.Spec PyProof.Rows L2
noncomputable section NC
mutual
def py : AV → PyData
  | .non => .none
  | .bl b => .bool b
  | .int i => .int i
  | .str x => .str x
  | .tup xs => .tuple (pys xs)
  | .rdt xs => .tuple (pys xs)
  | .lst xs => .list (pys xs)
  | .rdl xs => .list (pys xs)
  | .dK _ => .dict []
  | .dT _ => .dict []
  | .ins _ _ => .dict []
  | .ref _ => .dict []
def pys : List AV → List PyData
  | [] => []
  | a :: r => py a :: pys r
end
def pyv (h : AH) : AV → PyData
  | .ref n => match h[n]? with
    | some (.lst xs) => .list (pys xs)
    | _ => .dict []
  | a => py a
/-- the items of a list that may be told from others by its place -/
def vL (h : AH) : AV → Option (List AV)
  | .lst xs => some xs
  | .ref n => match h[n]? with
    | some (.lst xs) => some xs
    | _ => none
  | _ => none
def vLR (h : AH) : AV → Option (List AV)
  | .rdl xs => some xs
  | a => vL h a
def vT : AV → Option (List AV)
  | .tup xs => some xs
  | .rdt xs => some xs
  | _ => none
/-- a list's or a tuple's items -/
def vSq (h : AH) (a : AV) : Option (List AV) := match vT a with
  | some xs => some xs
  | none => vLR h a
section
variable {B : Bx} {ρ : List Addr} {F H : Hp} {h : AH}
theorem HR.got (hr : HR B ρ F h H) {p : Addr} {u : HO} (n : True) (e : F p = some u) : H p = some u := hr.sub p u e
theorem HR.sqT (hr : HR B ρ F h H) {p : Addr} {vs : List V} (q : SqT B.K F p vs) : SqT B.K H p vs := by
  rcases q with (q | ⟨o, q⟩) | q
  · exact .inl (.inl (hr.got trivial q))
  · exact .inl (.inr ⟨o, hr.got trivial q⟩)
  · exact .inr q
theorem HR.sqL (hr : HR B ρ F h H) {p : Addr} {vs : List V} (q : SqL B.K F p vs) : SqL B.K H p vs := by
  rcases q with (q | ⟨o, q⟩) | q
  · exact .inl (.inl (hr.got trivial q))
  · exact .inl (.inr ⟨o, hr.got trivial q⟩)
  · exact .inr q
theorem vL_at (hr : HR B ρ F h H) : ∀ {a : AV} {x : V} {xs : List AV}, RV B ρ F a x → vL h a = some xs → ∃ p vs, x = .ref p ∧ L2.Rd H p (.lst vs) ∧ RVs B ρ F xs vs
  | .lst ys, x, xs, r, e => by
    obtain ⟨p, vs, ex, q, rs⟩ := r
    have e : some ys = some xs := e
    cases e
    exact ⟨p, vs, ex, hr.gotR q, rs⟩
  | .ref n, x, xs, r, e => by
    obtain ⟨p, ep, ex⟩ := r
    obtain ⟨o, eo, ro⟩ := hr.at' ep
    have e : (match h[n]? with
      | some (.lst xs) => some xs
      | _ => none) = some xs := e
    rw [eo] at e
    cases o with
    | lst ys =>
      cases e
      obtain ⟨u, eu, vs, e1, rs⟩ := ro
      subst e1
      exact ⟨p, vs, ex, .inl eu, rs⟩
    | dK _ => cases e
    | dT _ => cases e
    | ins _ _ => cases e
    | lck _ => cases e
  | .non, _, _, _, e => by cases e
  | .bl _, _, _, _, e => by cases e
  | .int _, _, _, _, e => by cases e
  | .str _, _, _, _, e => by cases e
  | .tup _, _, _, _, e => by cases e
  | .rdt _, _, _, _, e => by cases e
  | .rdl _, _, _, _, e => by cases e
  | .dK _, _, _, _, e => by cases e
  | .dT _, _, _, _, e => by cases e
  | .ins _ _, _, _, _, e => by cases e
theorem vLR_at (hr : HR B ρ F h H) {a : AV} {x : V} {xs : List AV} (r : RV B ρ F a x) (e : vLR h a = some xs) : ∃ p vs, x = .ref p ∧ SqL B.K H p vs ∧ RVs B ρ F xs vs := by
  have other : vL h a = some xs → ∃ p vs, x = .ref p ∧ SqL B.K H p vs ∧ RVs B ρ F xs vs := fun e => by
    obtain ⟨p, vs, ex, q, rs⟩ := vL_at hr r e
    exact ⟨p, vs, ex, .inl q, rs⟩
  cases a with
  | rdl ys =>
    obtain ⟨p, vs, ex, q, rs⟩ := r
    have e : some ys = some xs := e
    cases e
    exact ⟨p, vs, ex, hr.sqL q, rs⟩
  | _ => exact other e
theorem vT_at (hr : HR B ρ F h H) {a : AV} {x : V} {xs : List AV} (r : RV B ρ F a x) (e : vT a = some xs) : ∃ p vs, x = .ref p ∧ SqT B.K H p vs ∧ RVs B ρ F xs vs := by
  cases a with
  | tup ys =>
    obtain ⟨p, vs, ex, q, rs⟩ := r
    have e : some ys = some xs := e
    cases e
    exact ⟨p, vs, ex, .inl (.inl (hr.got trivial q)), rs⟩
  | rdt ys =>
    obtain ⟨p, vs, ex, q, rs⟩ := r
    have e : some ys = some xs := e
    cases e
    exact ⟨p, vs, ex, hr.sqT q.1, rs⟩
  | _ => cases e
theorem vSq_at (hr : HR B ρ F h H) {a : AV} {x : V} {xs : List AV} (r : RV B ρ F a x) (e : vSq h a = some xs) : ∃ p vs, x = .ref p ∧ (SqL B.K H p vs ∨ SqT B.K H p vs) ∧ RVs B ρ F xs vs := by
  unfold vSq at e
  cases k : vT a with
  | some ys =>
    rw [k] at e
    cases e
    obtain ⟨p, vs, ex, q, rs⟩ := vT_at hr r k
    exact ⟨p, vs, ex, .inr q, rs⟩
  | none =>
    rw [k] at e
    obtain ⟨p, vs, ex, q, rs⟩ := vLR_at hr r e
    exact ⟨p, vs, ex, .inl q, rs⟩
mutual
theorem RV.dp (hr : HR B ρ F h H) : ∀ (a : AV) (x : V), RV B ρ F a x → (py a).plain = true → Dp B.K H x (py a)
  | .non, x, r, _ => by have r : x = .non := r; subst r; exact Dp.non
  | .bl b, x, r, _ => by have r : x = .bl b := r; subst r; exact Dp.bl b
  | .int b, x, r, _ => by have r : x = .int b := r; subst r; exact Dp.int b
  | .str b, x, r, _ => by have r : x = .str b := r; subst r; exact Dp.str b
  | .tup xs, x, r, pl => by
    obtain ⟨p, vs, ex, q, rs⟩ := r
    subst ex
    have pl : PyData.plainAll (pys xs) = true := pl
    have z := RVs.dp hr xs vs rs pl
    exact Dp.tup (.inl (.inl (hr.got trivial q))) z
  | .rdt xs, x, r, pl => by
    obtain ⟨p, vs, ex, q, rs⟩ := r
    subst ex
    have pl : PyData.plainAll (pys xs) = true := pl
    have z := RVs.dp hr xs vs rs pl
    exact Dp.tup (hr.sqT q.1) z
  | .lst xs, x, r, pl => by
    obtain ⟨p, vs, ex, q, rs⟩ := r
    subst ex
    have pl : PyData.plainAll (pys xs) = true := pl
    have z := RVs.dp hr xs vs rs pl
    exact Dp.lst (.inl (hr.gotR q)) z
  | .rdl xs, x, r, pl => by
    obtain ⟨p, vs, ex, q, rs⟩ := r
    subst ex
    have pl : PyData.plainAll (pys xs) = true := pl
    have z := RVs.dp hr xs vs rs pl
    exact Dp.lst (hr.sqL q) z
  | .dK _, _, _, pl => by cases pl
  | .dT _, _, _, pl => by cases pl
  | .ins _ _, _, _, pl => by cases pl
  | .ref _, _, _, pl => by cases pl
theorem RVs.dp (hr : HR B ρ F h H) : ∀ (xs : List AV) (vs : List V), RVs B ρ F xs vs → PyData.plainAll (pys xs) = true → DpAll B.K H vs (pys xs)
  | [], vs, r, _ => by have r : vs = [] := r; subst r; exact DpAll.nil
  | a :: xs, vs, r, pl => by
    obtain ⟨x, w, e, r1, r2⟩ := r
    subst e
    have pl : ((py a).plain && PyData.plainAll (pys xs)) = true := pl
    rw [Bool.and_eq_true] at pl
    exact DpAll.cons (RV.dp hr a x r1 pl.1) (RVs.dp hr xs w r2 pl.2)
end
theorem RV.dpv (hr : HR B ρ F h H) {a : AV} {x : V} (r : RV B ρ F a x) (pl : (pyv h a).plain = true) : Dp B.K H x (pyv h a) := by
  cases a with
  | ref n =>
    obtain ⟨p, ep, ex⟩ := r
    obtain ⟨o, eo, ro⟩ := hr.at' ep
    unfold pyv at pl ⊢
    simp only at pl ⊢
    rw [eo] at pl ⊢
    cases o with
    | lst ys =>
      obtain ⟨u, eu, vs, e1, rs⟩ := ro
      subst e1
      subst ex
      have pl : PyData.plainAll (pys ys) = true := pl
      exact Dp.lst (.inl (.inl eu)) (RVs.dp hr ys vs rs pl)
    | dK _ => cases pl
    | dT _ => cases pl
    | ins _ _ => cases pl
    | lck _ => cases pl
  | _ => exact RV.dp hr _ _ r pl
theorem RVs.append : ∀ {xs ys : List AV} {vs ws : List V}, RVs B ρ F xs vs → RVs B ρ F ys ws → RVs B ρ F (xs ++ ys) (vs ++ ws)
  | [], ys, vs, ws, r, s => by have r : vs = [] := r; subst r; exact s
  | a :: xs, ys, vs, ws, r, s => by
    obtain ⟨x, w, e, r1, r2⟩ := r
    subst e
    exact ⟨x, w ++ ws, rfl, r1, RVs.append r2 s⟩
theorem RVs.get : ∀ {xs : List AV} {vs : List V} {i : Nat} {a : AV}, RVs B ρ F xs vs → xs[i]? = some a → ∃ v, vs[i]? = some v ∧ RV B ρ F a v
  | [], vs, i, a, r, e => by simp at e
  | b :: xs, vs, 0, a, r, e => by
    obtain ⟨x, w, ev, r1, r2⟩ := r
    subst ev
    cases e
    exact ⟨x, rfl, r1⟩
  | b :: xs, vs, i + 1, a, r, e => by
    obtain ⟨x, w, ev, r1, r2⟩ := r
    subst ev
    exact RVs.get (i := i) r2 (by simpa using e)
theorem RVs.take : ∀ {xs : List AV} {vs : List V} (n : Nat), RVs B ρ F xs vs → RVs B ρ F (xs.take n) (vs.take n)
  | xs, vs, 0, r => rfl
  | [], vs, n + 1, r => by have r : vs = [] := r; subst r; exact rfl
  | b :: xs, vs, n + 1, r => by
    obtain ⟨x, w, ev, r1, r2⟩ := r
    subst ev
    exact ⟨x, w.take n, rfl, r1, RVs.take n r2⟩
theorem RVs.drop : ∀ {xs : List AV} {vs : List V} (n : Nat), RVs B ρ F xs vs → RVs B ρ F (xs.drop n) (vs.drop n)
  | xs, vs, 0, r => r
  | [], vs, n + 1, r => by have r : vs = [] := r; subst r; exact rfl
  | b :: xs, vs, n + 1, r => by
    obtain ⟨x, w, ev, r1, r2⟩ := r
    subst ev
    exact RVs.drop n r2
theorem RVs.set : ∀ {xs : List AV} {vs : List V} {a : AV} {v : V} (n : Nat), RVs B ρ F xs vs → RV B ρ F a v → RVs B ρ F (xs.set n a) (vs.set n v)
  | [], vs, a, v, n, r, s => by have r : vs = [] := r; subst r; exact rfl
  | b :: xs, vs, a, v, 0, r, s => by
    obtain ⟨x, w, ev, r1, r2⟩ := r
    subst ev
    exact ⟨v, w, rfl, s, r2⟩
  | b :: xs, vs, a, v, n + 1, r, s => by
    obtain ⟨x, w, ev, r1, r2⟩ := r
    subst ev
    exact ⟨x, w.set n v, rfl, r1, RVs.set n r2 s⟩
theorem RVs.nil_iff {xs : List AV} {vs : List V} (r : RVs B ρ F xs vs) : vs = [] ↔ xs = [] := by
  have e := RVs.length r
  constructor
  · intro z; subst z; exact List.eq_nil_of_length_eq_zero e
  · intro z; subst z; exact List.eq_nil_of_length_eq_zero e.symm
end
section
variable {B : Bx} {X : Cx}
def gAdd : G2 := fun a b h => match a, b with
  | .int i, .int j => some (.int (i + j))
  | .str x, .str y => if x.length + y.length ≤ sizeLine then some (.str (x ++ y)) else none
  | a, b => match vT a, vT b with
    | some xs, some ys => if xs.length + ys.length ≤ sizeLine then (match a, b with
      | .tup _, .tup _ => some (.tup (xs ++ ys))
      | _, _ => none) else none
    | _, _ => match vL h a, vL h b with
      | some xs, some ys => if xs.length + ys.length ≤ sizeLine then some (.lst (xs ++ ys)) else none
      | _, _ => none
/-- xs + zs, lists that may be known ones -/
def rCatR : R2 := fun x y H Q => ∃ l b xs zs, x = V.ref l ∧ y = V.ref b ∧ L2.Rd H l (.lst xs) ∧ L2.Rd H b (.lst zs) ∧ xs.length + zs.length ≤ sizeLine ∧ ∀ p, H p = none → Q (.ref p) (upd H p (.lst (xs ++ zs)))
theorem op_catR {X : Cx} : OpR X (binaryOp .Add) rCatR := by
  intro pins s σ H x y v u Q I rx ry ⟨l, b, xs, zs, e1, e2, g1, g2, hz, q⟩
  subst e1
  subst e2
  cases rx
  cases ry
  obtain ⟨_, its, n, r, e⟩ := g1.ok I.hok
  obtain ⟨_, its2, n2, r2, e2⟩ := g2.ok I.hok
  have l1 := r.length
  have l2 := r2.length
  have ea : its.toArray ++ its2.toArray = (its ++ its2).toArray := by simp
  refine PySem.P.add_list e e2 ?_ (by simp only [List.size_toArray]; omega)
  rw [ea]
  have hz2 : (xs ++ zs).length ≤ sizeLine := by simpa using hz
  exact ⟨V.ref _, _, I.lnew (t' := s.toks) (r.append r2) hz2, rfl, q _ I.fresh⟩
theorem op_gAdd (hK : X.K = B.K := by rfl) : OpR X (binaryOp .Add) (rm2 B gAdd) := by
  intro pins s σ H x y v u Q I rx ry hh
  obtain ⟨ρ, F, h, a, b, c, hr, ra, rb, ec, q⟩ := hh
  unfold gAdd at ec
  split at ec
  · rename_i i j
    cases ec
    exact op_add pins s σ H x y v u Q I rx ry ⟨i, j, ra, rb, q _ _ _ _ Ext.refl hr rfl⟩
  · rename_i x1 y1
    split at ec
    · rename_i hz
      cases ec
      exact op_add_str pins s σ H x y v u Q I rx ry ⟨x1, y1, ra, rb, hz, q _ _ _ _ Ext.refl hr rfl⟩
    · cases ec
  · split at ec
    · rename_i xs ys e1 e2
      split at ec
      · rename_i hz
        split at ec
        · rename_i xs' ys' _ _
          cases ec
          cases e1
          cases e2
          obtain ⟨p, vs, ex, qa, rs⟩ := ra
          obtain ⟨p2, vs2, ex2, qb, rs2⟩ := rb
          refine op_catA pins s σ H x y v u Q I rx ry ⟨p, p2, vs, vs2, ex, ex2, .inl (.inl (hr.got trivial qa)), .inl (.inl (hr.got trivial qb)), by rw [← RVs.length rs, ← RVs.length rs2]; exact hz, fun z => ?_, fun z z2 => ?_, fun _ _ p3 hp => ?_⟩
          · subst ex2
            refine q _ _ _ _ Ext.refl hr ?_
            rw [rs.nil_iff.mp z, List.nil_append]
            exact ⟨p2, vs2, rfl, qb, rs2⟩
          · subst ex
            refine q _ _ _ _ Ext.refl hr ?_
            rw [rs2.nil_iff.mp z2, List.append_nil]
            exact ⟨p, vs, rfl, qa, rs⟩
          · obtain ⟨hr', ext⟩ := hr.newF hp (.tup (vs ++ vs2))
            exact q _ _ _ _ ext hr' ⟨p3, vs ++ vs2, rfl, upd_same, (rs.append rs2).ext ext⟩
        · cases ec
      · cases ec
    · split at ec
      · rename_i xs ys e1 e2
        split at ec
        · rename_i hz
          cases ec
          obtain ⟨p, vs, ex, qa, rs⟩ := vL_at hr ra e1
          obtain ⟨p2, vs2, ex2, qb, rs2⟩ := vL_at hr rb e2
          refine op_catR pins s σ H x y v u Q I rx ry ⟨p, p2, vs, vs2, ex, ex2, qa, qb, by rw [← RVs.length rs, ← RVs.length rs2]; exact hz, fun p3 hp => ?_⟩
          obtain ⟨hr', ext⟩ := hr.newF hp (.lst (vs ++ vs2))
          exact q _ _ _ _ ext hr' ⟨p3, vs ++ vs2, rfl, .inl upd_same, (rs.append rs2).ext ext⟩
        · cases ec
      · cases ec
def gI2 (C : Int → Int → Prop) [∀ i j, Decidable (C i j)] (f : Int → Int → AV) : G2 := fun a b _ => match a, b with
  | .int i, .int j => if C i j then some (f i j) else none
  | _, _ => none
theorem op_gI2 {f : Value → Value → Sem Value} {C : Int → Int → Prop} [∀ i j, Decidable (C i j)] {g : Int → Int → Int} (ho : OpR X f (rI C fun i j => .int (g i j))) : OpR X f (rm2 B (gI2 C fun i j => .int (g i j))) := by
  intro pins s σ H x y v u Q I rx ry hh
  obtain ⟨ρ, F, h, a, b, c, hr, ra, rb, ec, q⟩ := hh
  unfold gI2 at ec
  split at ec
  · rename_i i j
    split at ec
    · rename_i hc
      cases ec
      exact ho pins s σ H x y v u Q I rx ry ⟨i, j, ra, rb, hc, q _ _ _ _ Ext.refl hr rfl⟩
    · cases ec
  · cases ec
theorem op_gI2' {f : Value → Value → Sem Value} {g : Int → Int → Int} (ho : OpR X f (rI0 fun i j => .int (g i j))) : OpR X f (rm2 B (gI2 (fun _ _ => True) fun i j => .int (g i j))) := by
  refine op_gI2 (C := fun _ _ => True) fun pins s σ H x y v u Q I rx ry hh => ?_
  obtain ⟨i, j, e1, e2, _, q⟩ := hh
  exact ho pins s σ H x y v u Q I rx ry ⟨i, j, e1, e2, q⟩
noncomputable instance {i j : Int} : Decidable (CMul i j) := Classical.propDecidable _
noncomputable instance {i j : Int} : Decidable (CDiv i j) := Classical.propDecidable _
noncomputable instance {i j : Int} : Decidable (CPow i j) := Classical.propDecidable _
abbrev gSub : G2 := gI2 (fun _ _ => True) fun i j => .int (i - j)
abbrev gMul : G2 := gI2 CMul fun i j => .int (i * j)
abbrev gDiv : G2 := gI2 CDiv fun i j => .int (i / j)
abbrev gMod : G2 := gI2 (fun _ j => 0 < j) fun i j => .int (i % j)
abbrev gPow : G2 := gI2 CPow fun i j => .int (i ^ j.toNat)
theorem op_gSub : OpR X (binaryOp .Sub) (rm2 B gSub) := op_gI2' op_sub
theorem op_gMul : OpR X (binaryOp .Mult) (rm2 B gMul) := op_gI2 op_mul
theorem op_gDiv : OpR X (binaryOp .FloorDiv) (rm2 B gDiv) := op_gI2 op_fdiv
theorem op_gMod : OpR X (binaryOp .Mod) (rm2 B gMod) := op_gI2 op_mod
theorem op_gPow : OpR X (binaryOp .Pow) (rm2 B gPow) := op_gI2 op_pow
def gNeg : G1 := fun a _ => match a with
  | .int i => some (.int (-i))
  | _ => none
def okD (d e : PyData) : Bool := d.plain && e.plain && decide (min d.depth e.depth ≤ 60)
def gEq (neg : Bool) : G2 := fun a b h => if okD (pyv h a) (pyv h b) = true then some (.bl (if neg then !PyData.eqv (pyv h a) (pyv h b) else PyData.eqv (pyv h a) (pyv h b))) else none
theorem okD_of {d e : PyData} (h : okD d e = true) : d.plain = true ∧ e.plain = true ∧ min d.depth e.depth ≤ 60 := by
  unfold okD at h
  rw [Bool.and_eq_true, Bool.and_eq_true, decide_eq_true_eq] at h
  exact ⟨h.1.1, h.1.2, h.2⟩
theorem two_reads {pins : List (Addr × Obj)} {σ : L2.St} {H : Hp} {s : Shared} {ρ : List Addr} {F : Hp} {h : AH} {a : AV} {x : V} {v : Value} (hK : X.K = B.K) (I : Inv X pins σ H s) (hr : HR B ρ F h H) (ra : RV B ρ F a x) (rx : RelV x v) (pl : (pyv h a).plain = true) : ∃ as, Reads s.heap v (pyv h a) as :=
  Dp.reads I _ _ _ (by rw [hK]; exact ra.dpv hr pl) rx
theorem op_gEq (hu : X.A.units + 64 < cLine) (hK : X.K = B.K := by rfl) : OpR X (compareOp .Eq) (rm2 B (gEq false)) := by
  intro pins s σ H x y v u Q I rx ry hh
  obtain ⟨ρ, F, h, a, b, c, hr, ra, rb, ec, q⟩ := hh
  unfold gEq at ec
  split at ec
  · rename_i ok
    cases ec
    obtain ⟨p1, p2, p3⟩ := okD_of ok
    obtain ⟨as, r1⟩ := two_reads hK I hr ra rx p1
    obtain ⟨bs, r2⟩ := two_reads hK I hr rb ry p2
    exact SeqAt.eq_plain r1 r2 p1 p2 (by omega) ⟨.bl _, H, I, rfl, q _ _ _ _ Ext.refl hr rfl⟩
  · cases ec
theorem op_gNe (hu : X.A.units + 64 < cLine) (hK : X.K = B.K := by rfl) : OpR X (compareOp .NotEq) (rm2 B (gEq true)) := by
  intro pins s σ H x y v u Q I rx ry hh
  obtain ⟨ρ, F, h, a, b, c, hr, ra, rb, ec, q⟩ := hh
  unfold gEq at ec
  split at ec
  · rename_i ok
    cases ec
    obtain ⟨p1, p2, p3⟩ := okD_of ok
    obtain ⟨as, r1⟩ := two_reads hK I hr ra rx p1
    obtain ⟨bs, r2⟩ := two_reads hK I hr rb ry p2
    exact SeqAt.ne_plain r1 r2 p1 p2 (by omega) ⟨.bl _, H, I, rfl, q _ _ _ _ Ext.refl hr rfl⟩
  · cases ec
def okO (d e : PyData) : Bool := W.alike d e && d.plain && e.plain && (match d with | .none => false | _ => true) && decide (min d.depth e.depth ≤ 60)
def gOrd (p : Int → Int → Bool) (f : PyData → PyData → Bool) : G2 := fun a b h => match a, b with
  | .int i, .int j => some (.bl (p i j))
  | a, b => if okO (pyv h a) (pyv h b) = true then some (.bl (f (pyv h a) (pyv h b))) else none
theorem okO_of {d e : PyData} (h : okO d e = true) : W.alike d e = true ∧ d.plain = true ∧ e.plain = true ∧ d ≠ .none ∧ min d.depth e.depth ≤ 60 := by
  unfold okO at h
  simp only [Bool.and_eq_true, decide_eq_true_eq] at h
  obtain ⟨⟨⟨⟨h1, h2⟩, h3⟩, h4⟩, h5⟩ := h
  refine ⟨h1, h2, h3, fun z => ?_, h5⟩
  subst z
  cases h4
theorem op_gOrd {op : CmpOp} {p : Int → Int → Bool} {f : PyData → PyData → Bool} (hK : X.K = B.K) (ho : OpR X (compareOp op) (rI0 fun i j => .bl (p i j)))
    (hd : ∀ {s : Shared} {a b : Value} {da db : PyData} {as bs : List Addr} {Q : Value → Shared → Prop}, Reads s.heap a da as → Reads s.heap b db bs → W.alike da db = true → da ≠ .none → min da.depth db.depth ≤ 60 → Q (.bool (f da db)) s → wpAny (model X.prog X.w) X.A (compareOp op a b) Q X.xe s) : OpR X (compareOp op) (rm2 B (gOrd p f)) := by
  intro pins s σ H x y v u Q I rx ry hh
  obtain ⟨ρ, F, h, a, b, c, hr, ra, rb, ec, q⟩ := hh
  unfold gOrd at ec
  split at ec
  · rename_i i j
    cases ec
    exact ho pins s σ H x y v u Q I rx ry ⟨i, j, ra, rb, q _ _ _ _ Ext.refl hr rfl⟩
  · split at ec
    · rename_i ok
      cases ec
      obtain ⟨p0, p1, p2, p3, p4⟩ := okO_of ok
      obtain ⟨as, r1⟩ := two_reads hK I hr ra rx p1
      obtain ⟨bs, r2⟩ := two_reads hK I hr rb ry p2
      exact hd r1 r2 p0 p3 p4 ⟨.bl _, H, I, rfl, q _ _ _ _ Ext.refl hr rfl⟩
    · cases ec
abbrev gLt : G2 := gOrd (fun i j => decide (i < j)) fun d e => W.dataLt d e
abbrev gLe : G2 := gOrd (fun i j => decide (i ≤ j)) fun d e => !W.dataLt e d
abbrev gGt : G2 := gOrd (fun i j => decide (j < i)) fun d e => W.dataLt e d
abbrev gGe : G2 := gOrd (fun i j => decide (j ≤ i)) fun d e => !W.dataLt d e
theorem op_gLt (hu : X.A.units + 64 < cLine) (hK : X.K = B.K := by rfl) : OpR X (compareOp .Lt) (rm2 B gLt) := op_gOrd hK op_lt fun r1 r2 h n d q => W.lt_data r1 r2 h n (by omega) q
theorem op_gLe (hu : X.A.units + 64 < cLine) (hK : X.K = B.K := by rfl) : OpR X (compareOp .LtE) (rm2 B gLe) := op_gOrd hK op_le fun r1 r2 h n d q => W.le_data r1 r2 h n (by omega) q
theorem op_gGt (hu : X.A.units + 64 < cLine) (hK : X.K = B.K := by rfl) : OpR X (compareOp .Gt) (rm2 B gGt) := op_gOrd hK op_gt fun r1 r2 h n d q => W.gt_data r1 r2 h n (by omega) q
theorem op_gGe (hu : X.A.units + 64 < cLine) (hK : X.K = B.K := by rfl) : OpR X (compareOp .GtE) (rm2 B gGe) := op_gOrd hK op_ge fun r1 r2 h n d q => W.ge_data r1 r2 h n (by omega) q
def gIs (neg : Bool) : G2 := fun a b _ => match b with
  | .non => some (.bl (match a with | .non => !neg | _ => neg))
  | _ => none
end
end NC
end S3
end
section
set_option Elab.async false
set_option linter.all false
set_option maxRecDepth 100000
set_option maxHeartbeats 4000000
namespace S3
open PySem PySem.Spec PyProof.Rows L2
noncomputable section NC
def kget {κ : Type} [DecidableEq κ] : List (κ × AV) → κ → Option AV
  | [], _ => none
  | (k, a) :: r, j => if k = j then some a else kget r j
def kput {κ : Type} [DecidableEq κ] (kvs : List (κ × AV)) (k : κ) (v : AV) : List (κ × AV) :=
  if (kvs.any fun kv => decide (kv.1 = k)) = true then kvs.map (fun kv => if kv.1 = k then (kv.1, v) else kv) else kvs ++ [(k, v)]
def kdrop {κ : Type} [DecidableEq κ] (kvs : List (κ × AV)) (k : κ) : List (κ × AV) := kvs.filter fun kv => decide (kv.1 ≠ k)
def keyOf : AV → Option Key
  | .int i => some (.inl i)
  | .str x => some (.inr x)
  | _ => none
def keysOf : List AV → Option (List Key)
  | [] => some []
  | a :: r => match keyOf a, keysOf r with
    | some k, some ks => some (k :: ks)
    | _, _ => none
def keyT : AV → Option (List Key)
  | .tup xs => keysOf xs
  | _ => none
inductive DV where
  | k (kvs : List (Key × AV)) | t (kvs : List (List Key × AV))
def vD (h : AH) : AV → Option DV
  | .dK kvs => some (.k kvs)
  | .dT kvs => some (.t kvs)
  | .ref n => match h[n]? with
    | some (.dK kvs) => some (.k kvs)
    | some (.dT kvs) => some (.t kvs)
    | some (.lck (.dK kvs)) => some (.k kvs)
    | some (.lck (.dT kvs)) => some (.t kvs)
    | _ => none
  | _ => none
/-- what a dict holds at a key: none where it is no dict or the key is no key -/
def dGet (h : AH) (d k : AV) : Option (Option AV) := match vD h d with
  | some (.k kvs) => match keyOf k with
    | some j => some (kget kvs j)
    | none => none
  | some (.t kvs) => match keyT k with
    | some j => some (kget kvs j)
    | none => none
  | none => none
section
variable {B : Bx} {ρ : List Addr} {F H : Hp} {h : AH}
theorem RKs.get {kvs : List (Key × AV)} {ws : List (Key × V)} (r : RKs B ρ F kvs ws) (k : Key) : (kget kvs k = none ∧ valV ws k = none) ∨ ∃ a v, kget kvs k = some a ∧ valV ws k = some v ∧ RV B ρ F a v := by
  induction kvs generalizing ws with
  | nil =>
    have r : ws = [] := r
    subst r
    exact .inl ⟨rfl, rfl⟩
  | cons p r' ih =>
    obtain ⟨j, a⟩ := p
    obtain ⟨v, w, e, r1, r2⟩ := r
    subst e
    by_cases hk : j = k
    · exact .inr ⟨a, v, by unfold kget; rw [if_pos hk], valV_pos (p := (j, v)) hk, r1⟩
    · rcases ih r2 with ⟨q1, q2⟩ | ⟨a', v', q1, q2, q3⟩
      · exact .inl ⟨by unfold kget; rw [if_neg hk]; exact q1, by rw [valV_neg (p := (j, v)) hk]; exact q2⟩
      · exact .inr ⟨a', v', by unfold kget; rw [if_neg hk]; exact q1, by rw [valV_neg (p := (j, v)) hk]; exact q2, q3⟩
theorem RTs.get {kvs : List (List Key × AV)} {ws : List (List Key × V)} (r : RTs B ρ F kvs ws) (k : List Key) : (kget kvs k = none ∧ valV ws k = none) ∨ ∃ a v, kget kvs k = some a ∧ valV ws k = some v ∧ RV B ρ F a v := by
  induction kvs generalizing ws with
  | nil =>
    have r : ws = [] := r
    subst r
    exact .inl ⟨rfl, rfl⟩
  | cons p r' ih =>
    obtain ⟨j, a⟩ := p
    obtain ⟨v, w, e, r1, r2⟩ := r
    subst e
    by_cases hk : j = k
    · exact .inr ⟨a, v, by unfold kget; rw [if_pos hk], valV_pos (p := (j, v)) hk, r1⟩
    · rcases ih r2 with ⟨q1, q2⟩ | ⟨a', v', q1, q2, q3⟩
      · exact .inl ⟨by unfold kget; rw [if_neg hk]; exact q1, by rw [valV_neg (p := (j, v)) hk]; exact q2⟩
      · exact .inr ⟨a', v', by unfold kget; rw [if_neg hk]; exact q1, by rw [valV_neg (p := (j, v)) hk]; exact q2, q3⟩
theorem key_at {a : AV} {v : V} {k : Key} (r : RV B ρ F a v) (e : keyOf a = some k) : v = kV k := by
  cases a with
  | int i => cases e; exact r
  | str i => cases e; exact r
  | _ => cases e
theorem keys_at : ∀ {xs : List AV} {vs : List V} {ks : List Key}, RVs B ρ F xs vs → keysOf xs = some ks → vs = ks.map kV
  | [], vs, ks, r, e => by
    have r : vs = [] := r
    subst r
    cases e
    rfl
  | a :: xs, vs, ks, r, e => by
    obtain ⟨v, w, ev, r1, r2⟩ := r
    subst ev
    unfold keysOf at e
    split at e
    · rename_i k ks' e1 e2
      cases e
      rw [key_at r1 e1, keys_at r2 e2]
      rfl
    · cases e
theorem keyT_at (hr : HR B ρ F h H) {a : AV} {v : V} {ks : List Key} (r : RV B ρ F a v) (e : keyT a = some ks) : ∃ b, v = .ref b ∧ H b = some (.tup (ks.map kV)) := by
  cases a with
  | tup xs =>
    obtain ⟨p, vs, ev, q, rs⟩ := r
    have e : keysOf xs = some ks := e
    refine ⟨p, ev, ?_⟩
    rw [← keys_at rs e]
    exact hr.got trivial q
  | _ => cases e
theorem vD_at (hr : HR B ρ F h H) {a : AV} {x : V} {d : DV} (r : RV B ρ F a x) (e : vD h a = some d) : ∃ p, x = .ref p ∧ match d with
    | .k kvs => ∃ ws, Rd H p (.dK ws) ∧ RKs B ρ F kvs ws
    | .t kvs => ∃ ws, Rd H p (.dT ws) ∧ RTs B ρ F kvs ws := by
  cases a with
  | dK kvs =>
    obtain ⟨p, o, ws, ex, q, rs⟩ := r
    cases e
    exact ⟨p, ex, ws, .inr ⟨o, hr.sub _ _ q⟩, rs⟩
  | dT kvs =>
    obtain ⟨p, o, ws, ex, q, rs⟩ := r
    cases e
    exact ⟨p, ex, ws, .inr ⟨o, hr.sub _ _ q⟩, rs⟩
  | ref n =>
    obtain ⟨p, ep, ex⟩ := r
    obtain ⟨o, eo, ro⟩ := hr.at' ep
    have e : (match h[n]? with
      | some (.dK kvs) => some (DV.k kvs)
      | some (.dT kvs) => some (.t kvs)
      | some (.lck (.dK kvs)) => some (.k kvs)
      | some (.lck (.dT kvs)) => some (.t kvs)
      | _ => none) = some d := e
    rw [eo] at e
    refine ⟨p, ex, ?_⟩
    cases o with
    | dK kvs =>
      cases e
      obtain ⟨u, eu, ws, e1, rs⟩ := ro
      subst e1
      exact ⟨ws, .inl eu, rs⟩
    | dT kvs =>
      cases e
      obtain ⟨u, eu, ws, e1, rs⟩ := ro
      subst e1
      exact ⟨ws, .inl eu, rs⟩
    | lck o =>
      cases o with
      | dK kvs =>
        cases e
        obtain ⟨ob, u, eu, ws, e1, rs⟩ := ro
        subst e1
        exact ⟨ws, .inr ⟨ob, eu⟩, rs⟩
      | dT kvs =>
        cases e
        obtain ⟨ob, u, eu, ws, e1, rs⟩ := ro
        subst e1
        exact ⟨ws, .inr ⟨ob, eu⟩, rs⟩
      | _ => cases e
    | _ => cases e
  | _ => cases e
theorem dGet_at (hr : HR B ρ F h H) {a b : AV} {x y : V} {o : Option AV} (ra : RV B ρ F a x) (rb : RV B ρ F b y) (e : dGet h a b = some o) : ∃ p ov, x = .ref p ∧ DGet H p y ov ∧ ((o = none ∧ ov = none) ∨ ∃ c v, o = some c ∧ ov = some v ∧ RV B ρ F c v) := by
  unfold dGet at e
  split at e
  · rename_i kvs ed
    obtain ⟨p, ex, ws, rd, rs⟩ := vD_at hr ra ed
    split at e
    · rename_i k ek
      cases e
      refine ⟨p, valV ws k, ex, .inl ⟨ws, k, rd, key_at rb ek, rfl⟩, ?_⟩
      rcases RKs.get rs k with ⟨q1, q2⟩ | ⟨c, v, q1, q2, q3⟩
      · exact .inl ⟨q1, q2⟩
      · exact .inr ⟨c, v, q1, q2, q3⟩
    · cases e
  · rename_i kvs ed
    obtain ⟨p, ex, ws, rd, rs⟩ := vD_at hr ra ed
    split at e
    · rename_i k ek
      cases e
      obtain ⟨b', eb, hb⟩ := keyT_at hr rb ek
      refine ⟨p, valV ws k, ex, .inr ⟨ws, k, b', rd, eb, hb, rfl⟩, ?_⟩
      rcases RTs.get rs k with ⟨q1, q2⟩ | ⟨c, v, q1, q2, q3⟩
      · exact .inl ⟨q1, q2⟩
      · exact .inr ⟨c, v, q1, q2, q3⟩
    · cases e
  · cases e
end
def gIn (neg : Bool) : G2 := fun a b h => match dGet h b a with
  | some o => some (.bl (if neg then !o.isSome else o.isSome))
  | none => match a, b with
    | .str x, .str y => some (.bl (if neg then !(!(Builtin.Str.occurrences y x 0 y.length 1).isEmpty) else !(Builtin.Str.occurrences y x 0 y.length 1).isEmpty))
    | a, b => match pyv h b with
      | .list ds => if okD (pyv h a) (.list ds) = true then some (.bl (if neg then !ds.any (fun z => PyData.eqv z (pyv h a)) else ds.any fun z => PyData.eqv z (pyv h a))) else none
      | .tuple ds => if okD (pyv h a) (.tuple ds) = true then some (.bl (if neg then !ds.any (fun z => PyData.eqv z (pyv h a)) else ds.any fun z => PyData.eqv z (pyv h a))) else none
      | _ => none
section
variable {B : Bx} {X : Cx}
theorem isSome_of {o : Option AV} {ov : Option V} {B : Bx} {ρ : List Addr} {F : Hp} (h : (o = none ∧ ov = none) ∨ ∃ c v, o = some c ∧ ov = some v ∧ RV B ρ F c v) : o.isSome = ov.isSome := by
  rcases h with ⟨rfl, rfl⟩ | ⟨c, v, rfl, rfl, _⟩ <;> rfl
theorem depth_in {ds : List PyData} {d : PyData} (h : min d.depth (PyData.list ds).depth ≤ 60) : min (PyData.depthAll ds) d.depth ≤ 60 := by
  have e : (PyData.list ds).depth = PyData.depthAll ds + 1 ∨ (PyData.list ds).depth = 1 + PyData.depthAll ds := by
    first
      | exact .inl rfl
      | exact .inr rfl
      | (left; simp [PyData.depth])
      | (right; simp [PyData.depth])
  omega
theorem depth_in' {ds : List PyData} {d : PyData} (h : min d.depth (PyData.tuple ds).depth ≤ 60) : min (PyData.depthAll ds) d.depth ≤ 60 := by
  have e : (PyData.tuple ds).depth = PyData.depthAll ds + 1 ∨ (PyData.tuple ds).depth = 1 + PyData.depthAll ds := by
    first
      | exact .inl rfl
      | exact .inr rfl
      | (left; simp [PyData.depth])
      | (right; simp [PyData.depth])
  omega
theorem op_gIn (hu : X.A.units + 64 < cLine) (hK : X.K = B.K := by rfl) : OpR X (compareOp .In) (rm2 B (gIn false)) := by
  intro pins s σ H x y v u Q I rx ry hh
  obtain ⟨ρ, F, h, a, b, c, hr, ra, rb, ec, q⟩ := hh
  unfold gIn at ec
  split at ec
  · rename_i o ed
    cases ec
    obtain ⟨p, ov, ex, g, w⟩ := dGet_at hr rb ra ed
    subst ex
    obtain rfl : u = Value.ref p := ry
    exact d_in (by omega) I g rx fun s' I' => ⟨.bl ov.isSome, H, I', rfl, q _ _ _ _ Ext.refl hr (by rw [← isSome_of w]; rfl)⟩
  · split at ec
    · rename_i x1 y1 _
      cases ec
      exact op_in_str pins s σ H x y v u Q I rx ry ⟨x1, y1, ra, rb, q _ _ _ _ Ext.refl hr rfl⟩
    · split at ec
      · rename_i ds ed
        split at ec
        · rename_i ok
          cases ec
          obtain ⟨p1, p2, p3⟩ := okD_of ok
          obtain ⟨as, r1⟩ := two_reads hK I hr ra rx p1
          obtain ⟨bs, r2⟩ := two_reads hK I hr rb ry (by rw [ed]; exact p2)
          rw [ed] at r2
          have := depth_in p3
          exact SeqAt.in_list_data r2 r1 p2 p1 (by omega) ⟨.bl _, H, I, rfl, q _ _ _ _ Ext.refl hr rfl⟩
        · cases ec
      · rename_i ds ed
        split at ec
        · rename_i ok
          cases ec
          obtain ⟨p1, p2, p3⟩ := okD_of ok
          obtain ⟨as, r1⟩ := two_reads hK I hr ra rx p1
          obtain ⟨bs, r2⟩ := two_reads hK I hr rb ry (by rw [ed]; exact p2)
          rw [ed] at r2
          have := depth_in' p3
          exact SeqAt.in_tuple_data r2 r1 p2 p1 (by omega) ⟨.bl _, H, I, rfl, q _ _ _ _ Ext.refl hr rfl⟩
        · cases ec
      · cases ec
theorem op_gNotIn (hu : X.A.units + 64 < cLine) (hK : X.K = B.K := by rfl) : OpR X (compareOp .NotIn) (rm2 B (gIn true)) := by
  intro pins s σ H x y v u Q I rx ry hh
  obtain ⟨ρ, F, h, a, b, c, hr, ra, rb, ec, q⟩ := hh
  unfold gIn at ec
  split at ec
  · rename_i o ed
    cases ec
    obtain ⟨p, ov, ex, g, w⟩ := dGet_at hr rb ra ed
    subst ex
    obtain rfl : u = Value.ref p := ry
    exact d_notIn (by omega) I g rx fun s' I' => ⟨.bl (!ov.isSome), H, I', rfl, q _ _ _ _ Ext.refl hr (by rw [← isSome_of w]; rfl)⟩
  · split at ec
    · rename_i x1 y1 _
      cases ec
      exact op_notIn_str pins s σ H x y v u Q I rx ry ⟨x1, y1, ra, rb, q _ _ _ _ Ext.refl hr rfl⟩
    · split at ec
      · rename_i ds ed
        split at ec
        · rename_i ok
          cases ec
          obtain ⟨p1, p2, p3⟩ := okD_of ok
          obtain ⟨as, r1⟩ := two_reads hK I hr ra rx p1
          obtain ⟨bs, r2⟩ := two_reads hK I hr rb ry (by rw [ed]; exact p2)
          rw [ed] at r2
          have := depth_in p3
          exact SeqAt.notIn_list_data r2 r1 p2 p1 (by omega) ⟨.bl _, H, I, rfl, q _ _ _ _ Ext.refl hr rfl⟩
        · cases ec
      · rename_i ds ed
        split at ec
        · rename_i ok
          cases ec
          obtain ⟨p1, p2, p3⟩ := okD_of ok
          obtain ⟨as, r1⟩ := two_reads hK I hr ra rx p1
          obtain ⟨bs, r2⟩ := two_reads hK I hr rb ry (by rw [ed]; exact p2)
          rw [ed] at r2
          have := depth_in' p3
          exact SeqAt.notIn_tuple_data r2 r1 p2 p1 (by omega) ⟨.bl _, H, I, rfl, q _ _ _ _ Ext.refl hr rfl⟩
        · cases ec
      · cases ec
theorem ix_dict (hu : X.A.units + 1 < cLine) : IxR X (fun x y H Q => ∃ a v, x = .ref a ∧ DGet H a y (some v) ∧ Q v H) := by
  intro value slice pins s σ H x y v u Q I rx ry hq hs
  obtain ⟨a, w, ex, g, q⟩ := hq
  subst ex
  obtain rfl : v = Value.ref a := rx
  unfold subscriptTail
  have hT := dict_typeIs I g
  refine wpAny_bind ?_
  rw [getitemInPython_of_ne hT.not_modules]
  refine wpAny_bind (wpAny_specialOf hT PySem.F.slot_dict_getitem.lookup ?_)
  have fin : wpAny (model X.prog X.w) X.A (subscripted slice false (.ref a) u) (fun r s₃ => wpAny (model X.prog X.w) X.A (letTemporaryGo value (.ref a) r >>= fun _ => pure r) (EP X pins σ Q) X.xe s₃) X.xe s := by
    rw [hs]
    exact wpAny_operating (wpAny_mono (d_getItem hu I g ry fun w' s3 I3 rw' => (⟨w, H, I3, rw', q⟩ : EP X pins σ Q w' s3)) (fun r s₃ h₃ => wpAny_bind (wpAny_letTemporaryGo (wpAny_pure h₃))) fun _ _ x => x)
  first
    | exact wpAny_pure (wpAny_bind fin)
    | exact wpAny_bind (wpAny_pure (wpAny_bind fin))
    | exact wpAny_bind fin
def gIx : G2 := fun a b h => match dGet h a b with
  | some o => o
  | none => match a, b with
    | .str z, .int i => if z.length ≤ sizeLine then (atI z.cps.toList i).map fun c => .str ⟨#[c]⟩ else none
    | a, .int i => match vT a with
      | some xs => atI xs i
      | none => match vLR h a with
        | some xs => atI xs i
        | none => none
    | _, _ => none
theorem RVs.at {ρ : List Addr} {F : Hp} {xs : List AV} {vs : List V} {i : Int} {a : AV} (r : RVs B ρ F xs vs) (e : atI xs i = some a) : ∃ v, atI vs i = some v ∧ RV B ρ F a v := by
  unfold atI at e ⊢
  rw [← RVs.length r]
  cases k : ixN xs.length i with
  | none => rw [k] at e; cases e
  | some j =>
    rw [k] at e
    exact RVs.get (i := j) r e
theorem ix_gIx (hu : X.A.units + 64 < cLine) (hK : X.K = B.K := by rfl) : IxR X (rm2 B gIx) := by
  intro value slice pins s σ H x y v u Q I rx ry hh hs
  obtain ⟨ρ, F, h, a, b, c, hr, ra, rb, ec, q⟩ := hh
  unfold gIx at ec
  split at ec
  · rename_i o ed
    subst ec
    obtain ⟨p, ov, ex, g, w⟩ := dGet_at hr ra rb ed
    rcases w with ⟨e1, _⟩ | ⟨c', v', e1, e2, rc⟩
    · cases e1
    · cases e1
      subst e2
      exact ix_dict (by omega) value slice pins s σ H x y v u Q I rx ry ⟨p, v', ex, g, q _ _ _ _ Ext.refl hr rc⟩ hs
  · split at ec
    · rename_i z i _
      split at ec
      · rename_i hz
        cases k : atI z.cps.toList i with
        | none => rw [k] at ec; cases ec
        | some ch =>
          rw [k] at ec
          cases ec
          exact ix_str value slice pins s σ H x y v u Q I rx ry ⟨z, i, ch, ra, rb, hz, k, q _ _ _ _ Ext.refl hr rfl⟩ hs
      · cases ec
    · rename_i i _ _ _
      split at ec
      · rename_i xs et
        obtain ⟨p, vs, ex, qt, rs⟩ := vT_at hr ra et
        obtain ⟨w, ew, rw'⟩ := RVs.at rs ec
        exact ix_tup value slice pins s σ H x y v u Q I rx ry ⟨p, vs, _, w, ex, rb, by rw [hK]; exact qt, ew, q _ _ _ _ Ext.refl hr rw'⟩ hs
      · split at ec
        · rename_i xs el
          obtain ⟨p, vs, ex, ql, rs⟩ := vLR_at hr ra el
          obtain ⟨w, ew, rw'⟩ := RVs.at rs ec
          exact ix_list value slice pins s σ H x y v u Q I rx ry ⟨p, vs, _, w, ex, rb, by rw [hK]; exact ql, ew, q _ _ _ _ Ext.refl hr rw'⟩ hs
        · cases ec
    · cases ec
variable {W : WX}
theorem se_ix {a b : Expr} {ma mb : ME} {pos : Pos} (hu : X.A.units + 64 < cLine) (ha : SE B X W a ma) (hb : SE B X W b mb) (hs : PlainIx b := by intro _ _; rfl) (hK : X.K = B.K := by rfl) : SE B X W (.Subscript a b pos) (mBin gIx ma mb) :=
  PE.imp (pe_ix (ix_gIx hu hK) ha hb hs) fun _ _ _ h => bin_imp h
def cutA (xs : List AV) (lo hi : Option Int) : List AV := (xs.drop (HT.sIx xs.length 0 lo)).take (HT.sIx xs.length xs.length hi - HT.sIx xs.length 0 lo)
theorem RVs.cut {ρ : List Addr} {F : Hp} {xs : List AV} {vs : List V} (r : RVs B ρ F xs vs) (lo hi : Option Int) : RVs B ρ F (cutA xs lo hi) (cutV vs lo hi) := by
  unfold cutA cutV
  rw [← RVs.length r]
  exact (r.drop _).take _
abbrev MO := Sl → AH → Rs (Option Int)
def RO : Rl (Option Int) (Option Int) := fun _ _ a b => a = b
abbrev tmO (B : Bx) (W : WX) (m : MO) : TO := tmG B RO W m
abbrev SO (B : Bx) (X : Cx) (W : WX) (e : Option Expr) (m : MO) : Prop := PO X e (tmO B W m)
def mNoPart : MO := fun _ h => .ok none h
def mPart (m : ME) : MO := fun s h => (m s h).bind fun a h1 => match a with
  | .int i => .ok (some i) h1
  | _ => .stk
theorem PO.imp {e : Option Expr} {t t' : TO} (h : PO X e t) (w : ∀ σ H Q, t' σ H Q → t σ H Q) : PO X e t' := ⟨fun pins s σ H Q I q => h.run pins s σ H Q I (w σ H Q q)⟩
theorem so_none : SO B X W none mNoPart := PO.imp po_none fun σ H Q ⟨ρ, F, h, s, sr, hr, p⟩ => p ρ F H none Ext.refl hr rfl
theorem so_some {e : Expr} {m : ME} (he : SE B X W e m) : SO B X W (some e) (mPart m) := PO.imp (po_some he) fun σ H Q ⟨ρ, F, h, s, sr, hr, p⟩ => ⟨ρ, F, h, s, sr, hr, p.andThen fun a h1 ρ1 F1 H1 x _ e1 hr1 ra p1 => by
  cases a with
  | int i => exact ⟨i, ra, p1 ρ1 F1 H1 (some i) Ext.refl hr1 rfl⟩
  | _ => exact p1.elim⟩
def gSl (a : AV) (lo hi : Option Int) (h : AH) : Option AV := match a with
  | .str z => if z.length ≤ sizeLine then some (.str (cutS z lo hi)) else none
  | .tup xs => some (.tup (cutA xs lo hi))
  | a => match vLR h a with
    | some xs => some (.lst (cutA xs lo hi))
    | none => none
def rmSl (B : Bx) : V → Option Int → Option Int → Hp → VK → Prop := fun x lo hi H Q => ∃ ρ F h a c, HR B ρ F h H ∧ RV B ρ F a x ∧ gSl a lo hi h = some c ∧ ∀ ρ' F' H' z, Ext ρ F H ρ' F' H' → HR B ρ' F' h H' → RV B ρ' F' c z → Q z H'
theorem sl_gSl (hK : X.K = B.K := by rfl) : SlR X (rmSl B) := by
  intro pins s σ H x v vl vu lo hi sl Q I rx hs pl pu hh
  obtain ⟨ρ, F, h, a, c, hr, ra, ec, q⟩ := hh
  unfold gSl at ec
  split at ec
  · rename_i z
    split at ec
    · rename_i hz
      cases ec
      exact sl_str pins s σ H x v vl vu lo hi sl Q I rx hs pl pu ⟨z, ra, hz, q _ _ _ _ Ext.refl hr rfl⟩
    · cases ec
  · rename_i xs
    cases ec
    obtain ⟨p, vs, ex, qt, rs⟩ := ra
    refine sl_tupA pins s σ H x v vl vu lo hi sl Q I rx hs pl pu ⟨p, vs, ex, .inl (.inl (hr.got trivial qt)), fun whole => ?_, fun _ p2 hp => ?_⟩
    · refine q _ _ _ _ Ext.refl hr ⟨p, vs, rfl, qt, ?_⟩
      have e : cutV vs lo hi = vs := by
        unfold cutV
        rw [whole.1, whole.2, List.drop_zero, Nat.sub_zero, List.take_length]
      have := rs.cut lo hi
      rw [e] at this
      exact this
    · obtain ⟨hr', ext⟩ := hr.newF hp (.tup (cutV vs lo hi))
      exact q _ _ _ _ ext hr' ⟨p2, _, rfl, upd_same, (rs.cut lo hi).ext ext⟩
  · split at ec
    · rename_i xs el
      cases ec
      obtain ⟨p, vs, ex, ql, rs⟩ := vLR_at hr ra el
      refine sl_list pins s σ H x v vl vu lo hi sl Q I rx hs pl pu ⟨p, vs, ex, by rw [hK]; exact ql, fun p2 hp => ?_⟩
      obtain ⟨hr', ext⟩ := hr.newF hp (.lst (cutV vs lo hi))
      exact q _ _ _ _ ext hr' ⟨p2, _, rfl, .inl upd_same, (rs.cut lo hi).ext ext⟩
    · cases ec
def mSl (ma : ME) (lo hi : MO) : ME := fun s h => (ma s h).bind fun a h1 => (lo s h1).bind fun l h2 => (hi s h2).bind fun u h3 => ofO (gSl a l u h3) h3
theorem se_slice {a : Expr} {lo hi : Option Expr} {ma : ME} {ml mh : MO} {p2 pos : Pos} (ha : SE B X W a ma) (hl : SO B X W lo ml) (hh : SO B X W hi mh) (hK : X.K = B.K := by rfl) : SE B X W (.Subscript a (.Slice lo hi none p2) pos) (mSl ma ml mh) :=
  PE.imp (pe_slice (sl_gSl hK) ha hl hh) fun σ H Q ⟨ρ, F, h, s, sr, hr, p⟩ => ⟨ρ, F, h, s, sr, hr, p.andThen fun a h1 ρ1 F1 H1 x _ e1 hr1 ra p1 =>
    ⟨ρ1, F1, h1, s, sr.ext e1, hr1, p1.andThen fun l h2 ρ2 F2 H2 lv _ e2 hr2 rl p2 =>
      ⟨ρ2, F2, h2, s, (sr.ext e1).ext e2, hr2, p2.andThen fun u h3 ρ3 F3 H3 uv _ e3 hr3 ru p3 => by
        cases rl
        cases ru
        obtain ⟨c, ec, q⟩ := ofO_post p3
        exact ⟨ρ3, F3, h3, a, c, hr3, (ra.ext e2).ext e3, ec, q⟩⟩⟩⟩
end
end NC
end S3
end
section
set_option Elab.async false
set_option linter.all false
set_option maxRecDepth 100000
set_option maxHeartbeats 4000000
namespace S3
open PySem PySem.Spec PyProof.Rows L2
noncomputable section NC
def vIns (c : Str) (h : AH) : AV → Option (List (Str × AV))
  | .ins d fs => if d = c then some fs else none
  | .ref n => match h[n]? with
    | some (.ins d fs) => if d = c then some fs else none
    | _ => none
  | _ => none
section
variable {B : Bx} {ρ : List Addr} {F H : Hp} {h : AH}
theorem RFs.get {fs : List (Str × AV)} {ws : List (Str × V)} (r : RFs B ρ F fs ws) (f : Str) : (fs.lookup f = none ∧ ws.lookup f = none) ∨ ∃ a v, fs.lookup f = some a ∧ ws.lookup f = some v ∧ RV B ρ F a v := by
  induction fs generalizing ws with
  | nil =>
    have r : ws = [] := r
    subst r
    exact .inl ⟨rfl, rfl⟩
  | cons p r' ih =>
    obtain ⟨j, a⟩ := p
    obtain ⟨v, w, e, r1, r2⟩ := r
    subst e
    rw [List.lookup_cons, List.lookup_cons]
    cases hk : f == j with
    | true => exact .inr ⟨a, v, rfl, rfl, r1⟩
    | false => exact ih r2
theorem RFs.length {fs : List (Str × AV)} {ws : List (Str × V)} (r : RFs B ρ F fs ws) : fs.length = ws.length := by
  induction fs generalizing ws with
  | nil =>
    have r : ws = [] := r
    subst r
    rfl
  | cons p r' ih =>
    obtain ⟨j, a⟩ := p
    obtain ⟨v, w, e, r1, r2⟩ := r
    subst e
    rw [List.length_cons, List.length_cons, ih r2]
def putA (f : Str) (v : AV) : List (Str × AV) → List (Str × AV)
  | [] => [(f, v)]
  | (g, w) :: r => if g = f then (g, v) :: r else (g, w) :: putA f v r
theorem RFs.put {fs : List (Str × AV)} {ws : List (Str × V)} (r : RFs B ρ F fs ws) {f : Str} {a : AV} {v : V} (rv : RV B ρ F a v) : RFs B ρ F (putA f a fs) (putF f v ws) := by
  induction fs generalizing ws with
  | nil =>
    have r : ws = [] := r
    subst r
    exact ⟨v, [], rfl, rv, rfl⟩
  | cons p r' ih =>
    obtain ⟨j, b⟩ := p
    obtain ⟨x, w, e, r1, r2⟩ := r
    subst e
    unfold putA putF
    by_cases hk : j = f
    · rw [if_pos hk, if_pos hk]
      exact ⟨v, w, rfl, rv, r2⟩
    · rw [if_neg hk, if_neg hk]
      exact ⟨x, putF f v w, rfl, r1, ih r2⟩
theorem vIns_at (hr : HR B ρ F h H) {c : Str} {a : AV} {x : V} {fs : List (Str × AV)} (r : RV B ρ F a x) (e : vIns c h a = some fs) : ∃ p C dx ws, x = .ref p ∧ B.mg c = some (.ref C) ∧ H p = some (.ins C dx ws) ∧ RFs B ρ F fs ws := by
  cases a with
  | ins d gs =>
    obtain ⟨p, C, dx, ws, ex, hm, q, rs⟩ := r
    have e : (if d = c then some gs else none) = some fs := e
    split at e
    · rename_i hd
      cases e
      subst hd
      exact ⟨p, C, dx, ws, ex, hm, hr.got trivial q, rs⟩
    · cases e
  | ref n =>
    obtain ⟨p, ep, ex⟩ := r
    obtain ⟨o, eo, ro⟩ := hr.at' ep
    have e : (match h[n]? with
      | some (.ins d fs) => if d = c then some fs else none
      | _ => none) = some fs := e
    rw [eo] at e
    cases o with
    | ins d gs =>
      have e : (if d = c then some gs else none) = some fs := e
      split at e
      · rename_i hd
        cases e
        subst hd
        obtain ⟨u, eu, C, dx, ws, e1, hm, rs⟩ := ro
        subst e1
        exact ⟨p, C, dx, ws, ex, hm, eu, rs⟩
      · cases e
    | _ => cases e
  | _ => cases e
/-- a new thing of its own, told by nobody -/
theorem HR.newP (x : HR B ρ F h H) {p : Addr} (n : H p = none) (u : HO) : HR B ρ F h (upd H p u) ∧ Ext ρ F H ρ F (upd H p u) := by
  have no : p ∉ ρ := x.out n
  refine ⟨⟨fun q w e => ?_, x.len, x.nd, x.sep, fun i q ob e1 e2 => OR.to (fun _ _ e => e) (fun _ _ e => e) (fun w e => upd_old n _ _ e) (x.obj i q ob e1 e2), x.tab.ext (upd_old n), x.ntb⟩,
    ⟨fun _ _ e => e, fun _ _ e => e, fun q w e _ _ => upd_old n _ _ e, fun _ _ _ _ _ _ f => f, fun _ _ _ _ m => m, fun q o w e => upd_old n _ _ e, fun _ _ _ _ f => f⟩⟩
  exact upd_old n _ _ (x.sub q w e)
end
/-- a class of the text: its instances may be read and written, these names are no attributes of the class -/
structure ClsF (B : Bx) (c : Str) (fs : List Str) : Prop where
  cls : ∀ C, B.mg c = some (.ref C) → Cls B.K C
  no : ∀ C, B.mg c = some (.ref C) → ∀ f, f ∈ fs → NoAttr B.K C f
section
variable {B : Bx} {X : Cx} {W : WX}
def gFld (c f : Str) : G1 := fun a h => match vIns c h a with
  | some fs => fs.lookup f
  | none => none
theorem se_fld {e : Expr} {c f : Str} {L : List Str} {m : ME} {pos : Pos} (hc : ClsF B c L) (hf : f ∈ L) (he : SE B X W e m) (hb : attributeBase e f X.env (eval e X.env) = eval e X.env := by rfl) (hK : X.K = B.K := by rfl) : SE B X W (.Attribute e f pos) (mUn (gFld c f) m) :=
  PE.imp (pe_fld he hb) fun σ H Q ⟨ρ, F, h, s, sr, hr, p⟩ => ⟨ρ, F, h, s, sr, hr, p.andThen fun a h1 ρ1 F1 H1 x _ e1 hr1 ra p1 => by
    obtain ⟨r, er, q⟩ := ofO_post p1
    unfold gFld at er
    split at er
    · rename_i fs ei
      obtain ⟨a', C, dx, ws, ex, hm, hp, rs⟩ := vIns_at hr1 ra ei
      rcases RFs.get rs f with ⟨z, _⟩ | ⟨b, v, z1, z2, rv⟩
      · rw [er] at z; cases z
      · rw [er] at z1
        cases z1
        exact ⟨a', C, dx, ws, v, ex, hp, by rw [hK]; exact hc.cls C hm, by rw [hK]; exact hc.no C hm f hf, z2, q _ _ _ _ Ext.refl hr1 rv⟩
    · cases er⟩
abbrev Fn := List AV → AH → Rs AV
def spF (B : Bx) (g : Fn) : Sp := fun vs H Q E => ∃ ρ F h as, HR B ρ F h H ∧ RVs B ρ F as vs ∧ Post B (RV B) ρ F H (g as h) Q E
/-- the def at f does what g says -/
abbrev FnS (B : Bx) (X : Cx) (k : Nat) (f : Addr) (fd : FuncData) (ps : List Str) (g : Fn) : Prop := FnOk X.prog X.w X.K X.mg X.base (L2.CX X.prog X.w) k f fd ps (spF B g)
def mCall (g : Fn) (m : MA) : ME := fun s h => (m s h).bind g
theorem call_imp {g : Fn} {m : MA} {σ : L2.St} {H : Hp} {Q : VK} (h : tm B W (mCall g m) σ H Q) : tmA B W m σ H fun vs H1 => spF B g vs H1 Q (WE W σ) := by
  obtain ⟨ρ, F, h, s, sr, hr, p⟩ := h
  exact ⟨ρ, F, h, s, sr, hr, p.andThen fun as h1 ρ1 F1 H1 vs _ e1 hr1 ra p1 => ⟨ρ1, F1, h1, as, hr1, ra, p1⟩⟩
section
variable {k : Nat} {f C : Addr} {fd : FuncData} {ps : List Str} {g : Fn} {x m c : Str} {p pos apos : Pos} {e o : Expr} {es : List Expr} {ma : MA} {mo : ME}
theorem se_call (Fo : FnS B X k f fd ps g) (hr : Room k X.A) (hg : Gl X x) (hm : X.mg x = some (.ref f)) (hk : PySem.W.keepIn X.K (.ref f) = true) (hb : Binds X.K fd ps []) (tk : Takes X W)
    (ha : SA B X W (e :: es) ma) (hdb : (x == ("__debug__" : Str)) = false := by decide) (he : starEach (e :: es) X.env = (false, eval e X.env) :: starEach es X.env := by rfl) (hpl : (backTo pos (starEach es X.env)).any (·.1) = false := by rfl) :
    SE B X W (.Call (.Name x p) (e :: es) [] pos) (mCall g ma) :=
  PE.imp (pe_callS Fo hr hg hm hk hb (passAt tk) ha hdb he hpl) fun σ H Q h => call_imp h
def mMeth (c m : Str) (g : Fn) (mo : ME) (ma : MA) : ME := fun s h => (mo s h).bind fun a h1 => match vIns c h1 a with
  | some fs => if (fs.lookup m).isNone = true then (ma s h1).bind fun as h2 => g (a :: as) h2 else .stk
  | none => .stk
theorem meth_at {a : AV} {y : V} {h : AH} {ρ : List Addr} {F H : Hp} {s : Sl} {σ : L2.St} {Q : VK} (hm : B.mg c = some (.ref C)) (sr : SR B ρ F s σ) (hr : HR B ρ F h H) (ra : RV B ρ F a y)
    (p : Post B (RV B) ρ F H (match vIns c h a with
      | some fs => if (fs.lookup m).isNone = true then (ma s h).bind fun as h2 => g (a :: as) h2 else .stk
      | none => .stk) Q (fun cls d H' => W cls d σ H')) :
    ∃ q dx ws, y = .ref q ∧ H q = some (.ins C dx ws) ∧ ws.lookup m = none ∧ tmA B W ma σ H fun vs H2 => spF B g (y :: vs) H2 Q (WE W σ) := by
  split at p
  · rename_i fs ei
    split at p
    · rename_i hn
      obtain ⟨q, C', dx, ws, ey, hm', hq, rs⟩ := vIns_at hr ra ei
      rw [hm] at hm'
      cases hm'
      refine ⟨q, dx, ws, ey, hq, ?_, ρ, F, h, s, sr, hr, p.andThen fun as h1 ρ1 F1 H1 vs _ e1 hr1 rs1 p1 => ⟨ρ1, F1, h1, a :: as, hr1, ⟨y, vs, rfl, ra.ext e1, rs1⟩, p1⟩⟩
      rcases RFs.get rs m with ⟨_, z⟩ | ⟨b, v, z1, z2, rv⟩
      · exact z
      · rw [z1] at hn; cases hn
    · exact p.elim
  · exact p.elim
theorem se_meth {pl : Sem Bool} (ho : SE B X W o mo) (hC : B.mg c = some (.ref C)) (cl : Cls X.K C) (hm : Meth X.K C m f) (Fo : FnS B X k f fd ps g) (hr : Room k X.A) (hb : Binds X.K fd ps []) (tk : Takes X W) (ha : SA B X W (e :: es) ma)
    (hst : starEach (e :: es) X.env = (false, eval e X.env) :: starEach es X.env := by rfl) (hpl : (backTo pos (starEach es X.env)).any (·.1) = false := by rfl)
    (ht : eval (.Call (.Attribute o m apos) (e :: es) [] pos) X.env = (do
      let ov ← eval o X.env
      standAt apos.atName
      let (f, first) ← holding [ov] (getMethod ov m pl)
      callWith pos f first (backTo pos (starEach (e :: es) X.env)) (backToKw pos (keywordEach [] X.env))) := by rfl) :
    SE B X W (.Call (.Attribute o m apos) (e :: es) [] pos) (mMeth c m g mo ma) := by
  refine ⟨fun pins s σ H Q I h => ?_⟩
  obtain ⟨ρ, F, h0, s0, sr, hr0, p⟩ := h
  have run := ho.run pins s σ H (fun x H1 => ∃ q dx ws, x = .ref q ∧ H1 q = some (.ins C dx ws) ∧ ws.lookup m = none ∧ tmA B W ma σ H1 fun vs H2 => spF B g (x :: vs) H2 Q (WE W σ)) I
    ⟨ρ, F, h0, s0, sr, hr0, p.andThen fun a h1 ρ1 F1 H1 x _ e1 hr1 ra p1 => meth_at hC (sr.ext e1) hr1 ra p1⟩
  refine PySem.W.methodCall_KW (pl := pl) (thn run fun u s1 ⟨x, H1, I1, rx, a, dx, fs, ex, ea, l, q⟩ => ?_) ht
  subst ex
  obtain rfl : u = Value.ref a := rx
  refine getmeth_ok I1 ea cl hm l ?_
  refine PySem.W.callWith_K (first := [.ref a]) (h₀ := X.base) I.ok.mod.kin hm.kp (thn (ha.run pos pins s1 σ H1 _ I1 q) fun us s2 ⟨vs, H2, I2, r, q2⟩ => ⟨I2.kIn, ?_⟩) hst hpl
  exact run_fnS (E := WE W) (us := .ref a :: us) (vs := .ref a :: vs) Fo hr hb (passAt tk σ) I2 (.cons rfl r) q2
theorem se_meth0 {pl : Sem Bool} (ho : SE B X W o mo) (hC : B.mg c = some (.ref C)) (cl : Cls X.K C) (hm : Meth X.K C m f) (Fo : FnS B X k f fd ps g) (hr : Room k X.A) (hb : Binds X.K fd ps []) (tk : Takes X W)
    (ht : eval (.Call (.Attribute o m apos) [] [] pos) X.env = (do
      let ov ← eval o X.env
      standAt apos.atName
      let (f, first) ← holding [ov] (getMethod ov m pl)
      callWith pos f first (backTo pos (starEach [] X.env)) (backToKw pos (keywordEach [] X.env))) := by rfl) :
    SE B X W (.Call (.Attribute o m apos) [] [] pos) (mMeth c m g mo mNil) := by
  refine ⟨fun pins s σ H Q I h => ?_⟩
  obtain ⟨ρ, F, h0, s0, sr, hr0, p⟩ := h
  have run := ho.run pins s σ H (fun x H1 => ∃ q dx ws, x = .ref q ∧ H1 q = some (.ins C dx ws) ∧ ws.lookup m = none ∧ spF B g [x] H1 Q (WE W σ)) I
    ⟨ρ, F, h0, s0, sr, hr0, p.andThen fun a h1 ρ1 F1 H1 x _ e1 hr1 ra p1 => by
      obtain ⟨q, dx, ws, e1', e2, e3, ρ2, F2, h2, s2, sr2, hr2, p2⟩ := meth_at (ma := mNil) hC (sr.ext e1) hr1 ra p1
      exact ⟨q, dx, ws, e1', e2, e3, p2 _ _ _ _ Ext.refl hr2 rfl⟩⟩
  refine PySem.W.methodCall_KW (pl := pl) (thn run fun u s1 ⟨x, H1, I1, rx, a, dx, fs, ex, ea, l, q⟩ => ?_) ht
  subst ex
  obtain rfl : u = Value.ref a := rx
  refine getmeth_ok I1 ea cl hm l ?_
  exact PySem.W.callWith_K0 (first := [.ref a]) I1.kIn hm.kp (run_fnS (E := WE W) (us := [.ref a]) (vs := [.ref a]) Fo hr hb (passAt tk σ) I1 (.cons rfl .nil) q)
/-- a new instance that may change, then its __init__ -/
def mMake (c : Str) (g : Fn) (ma : MA) : ME := fun s h => (ma s h).bind fun as h1 => match g (.ref h1.length :: as) (h1 ++ [.ins c []]) with
  | .ok .non h2 => .ok (.ref h1.length) h2
  | .ok _ _ => .stk
  | .exc c fs h2 => .exc c fs h2
  | .stk => .stk
theorem run_makeS {pins : List (Addr × Obj)} {σ : L2.St} {H : Hp} {s : Shared} {Q : VK} {us : List Value} {vs : List V} {sp : Sp} {CX : CXT} {E : L2.St → XK} (M : Mk X.K C f) (F : FnOk X.prog X.w X.K X.mg X.base CX k f fd ps sp) (hr : Room (k + 1) X.A) (hb : Binds X.K fd ps [])
    (hx : PassesAt CX X σ (E σ)) (I : Inv X pins σ H s) (r : Vals vs us)
    (h : ∀ x dx, H x = none → H dx = none → dx ≠ x → sp (.ref x :: vs) (upd (upd H dx (.own x)) x (.ins C dx [])) (fun v H2 => v = .non ∧ Q (.ref x) H2) (E σ)) :
    wpAny (model X.prog X.w) X.A (call (.ref C) us) (EP X pins σ Q) X.xe s := by
  have hq := h (s.heap.objs.size + 1) s.heap.objs.size (I.hok.fresh (Nat.le_succ _)) (I.hok.fresh (Nat.le_refl _)) (Nat.ne_of_lt (Nat.lt_succ_self _))
  have I2 := Inv.made (C := C) I
  have r2 : Vals (V.ref (s.heap.objs.size + 1) :: vs) (Value.ref (s.heap.objs.size + 1) :: us) := .cons rfl r
  have hl : (Value.ref (s.heap.objs.size + 1) :: us).length = ps.length := by
    have e := r2.length
    rw [F.len _ _ _ _ hq] at e
    exact e.symm
  have b := hb { s with heap := (s.heap.push { cls := .type "dict", data := .dict #[] }).push (PySem.W.instObj C s.heap.objs.size) } (Value.ref (s.heap.objs.size + 1) :: us)
  refine wpAny_call (make_map (f := f) I.kIn M.makes M.init (beq_iff_eq.mp M.fn) (codeAny_mono (F.run _ X.stack _ _ ⟨Value.ref (s.heap.objs.size + 1) :: us, []⟩ (Value.ref (s.heap.objs.size + 1) :: us) _ _ (E σ) (hr.make C us [])
    (I2.env0.make C us []) (by
      have b := hb _ (Value.ref (s.heap.objs.size + 1) :: us) I2.kIn (by rw [List.append_nil]; exact hl)
      rw [List.append_nil] at b
      exact b) r2 hq) fun r s' hq' => ?_))
  cases r with
  | error e => exact hx pins _ _ e s' I2 hq'
  | ok fl =>
    cases fl with
    | ret u =>
      obtain ⟨v, H', I3, rv, ev, q3⟩ := I2.after hq'
      subst ev
      exact ⟨rv, ⟨V.ref (s.heap.objs.size + 1), H', I3, rfl, q3⟩⟩
    | next => exact False.elim hq'
    | brk => exact False.elim hq'
    | cont => exact False.elim hq'
theorem make_at {as : List AV} {vs : List V} {h : AH} {ρ : List Addr} {F H : Hp} {Q : VK} {Wx : WK} (hm : B.mg c = some (.ref C)) (hr : HR B ρ F h H) (ra : RVs B ρ F as vs)
    (p : Post B (RV B) ρ F H (match g (.ref h.length :: as) (h ++ [.ins c []]) with
      | .ok .non h2 => .ok (.ref h.length) h2
      | .ok _ _ => .stk
      | .exc c fs h2 => .exc c fs h2
      | .stk => .stk) Q Wx) (x dx : Addr) (n1 : H x = none) (n2 : H dx = none) (ne : dx ≠ x) :
    spF B g (.ref x :: vs) (upd (upd H dx (.own x)) x (.ins C dx [])) (fun v H2 => v = .non ∧ Q (.ref x) H2) Wx := by
  obtain ⟨hr1, e1⟩ := hr.newP n2 (.own x)
  have n1' : upd H dx (.own x) x = none := by rw [upd_ne (Ne.symm ne)]; exact n1
  obtain ⟨hr2, e2⟩ := hr1.newM n1' (o := .ins c []) (u := .ins C dx []) ⟨C, dx, [], rfl, hm, rfl⟩
  have ex := e1.trans e2
  have rx : RV B (ρ ++ [x]) F (.ref h.length) (.ref x) := ⟨x, by rw [← hr.len]; exact getElem?_snoc _ _, rfl⟩
  refine ⟨_, _, _, .ref h.length :: as, hr2, ⟨.ref x, vs, rfl, rx, ra.ext ex⟩, ?_⟩
  revert p
  cases g (.ref h.length :: as) (h ++ [.ins c []]) with
  | ok a h2 =>
    cases a with
    | non => exact fun p ρ' F' H' v x1 y1 z1 => ⟨z1, p ρ' F' H' _ (ex.trans x1) y1 (rx.ext x1)⟩
    | _ => exact fun p => p.elim
  | exc c fs h2 => exact fun p ρ' F' H' cls d x1 y1 z1 => p ρ' F' H' cls d (ex.trans x1) y1 z1
  | stk => exact fun p => p.elim
theorem se_make (M : Mk X.K C f) (hC : B.mg c = some (.ref C)) (Fo : FnS B X k f fd ps g) (hr : Room (k + 1) X.A) (hg : Gl X c) (hm : X.mg c = some (.ref C)) (hb : Binds X.K fd ps []) (tk : Takes X W)
    (ha : SA B X W (e :: es) ma) (hdb : (c == ("__debug__" : Str)) = false := by decide) (he : starEach (e :: es) X.env = (false, eval e X.env) :: starEach es X.env := by rfl) (hpl : (backTo pos (starEach es X.env)).any (·.1) = false := by rfl) :
    SE B X W (.Call (.Name c p) (e :: es) [] pos) (mMake c g ma) := by
  refine ⟨fun pins s σ H Q I h => ?_⟩
  obtain ⟨ρ, F, h0, s0, sr, hr0, p⟩ := h
  have run := ha.run pos pins s σ H (fun vs H1 => ∀ x dx, H1 x = none → H1 dx = none → dx ≠ x → spF B g (.ref x :: vs) (upd (upd H1 dx (.own x)) x (.ins C dx [])) (fun v H2 => v = .non ∧ Q (.ref x) H2) (WE W σ)) I
    ⟨ρ, F, h0, s0, sr, hr0, p.andThen fun as h1 ρ1 F1 H1 vs _ e1 hr1 ra p1 => make_at hC hr1 ra p1⟩
  refine wpAny_Call_Name_kw (ld_glob I hg hm ?_ hdb)
  refine PySem.W.callWith_K (h₀ := X.base) I.ok.mod.kin M.kp (thn run fun us s1 ⟨vs, H1, I1, r, q⟩ => ⟨I1.kIn, ?_⟩) he hpl
  exact run_makeS (E := WE W) M Fo hr hb (passAt tk σ) I1 r q
theorem se_make0 (M : Mk X.K C f) (hC : B.mg c = some (.ref C)) (Fo : FnS B X k f fd ps g) (hr : Room (k + 1) X.A) (hg : Gl X c) (hm : X.mg c = some (.ref C)) (hb : Binds X.K fd ps []) (tk : Takes X W)
    (hdb : (c == ("__debug__" : Str)) = false := by decide) : SE B X W (.Call (.Name c p) [] [] pos) (mMake c g mNil) := by
  refine ⟨fun pins s σ H Q I h => ?_⟩
  obtain ⟨ρ, F, h0, s0, sr, hr0, p⟩ := h
  refine wpAny_Call_Name_kw (ld_glob I hg hm ?_ hdb)
  exact PySem.W.callWith_K0 I.kIn M.kp (run_makeS (E := WE W) (us := []) M Fo hr hb (passAt tk σ) I .nil (make_at (as := []) (vs := []) hC hr0 rfl p))
end
theorem se_callB {e : Expr} {es : List Expr} {x : Str} {id : String} {p pos : Pos} {g : GL} {ma : MA} (hc : CallR X (.builtin id) (rmL B g)) (hg : Gl X x) (hm : X.mg x = none) (hv : bootBuiltins x = some (.builtin id)) (ha : SA B X W (e :: es) ma) (hn : x ≠ "__name__" := by decide) (hdb : (x == ("__debug__" : Str)) = false := by decide)
    (he : starEach (e :: es) X.env = (false, eval e X.env) :: starEach es X.env := by rfl) (hpl : (backTo pos (starEach es X.env)).any (·.1) = false := by rfl) : SE B X W (.Call (.Name x p) (e :: es) [] pos) (mFn g ma) :=
  PE.imp (pe_callB hc hg hm hv ha hn hdb he hpl) fun σ H Q h => disp_imp h
theorem se_callTy {e : Expr} {es : List Expr} {x : Str} {id : String} {p pos : Pos} {g : GL} {ma : MA} (hc : CallR X (.type id) (rmL B g)) (hg : Gl X x) (hm : X.mg x = none) (hv : bootBuiltins x = some (.type id)) (ha : SA B X W (e :: es) ma) (hn : x ≠ "__name__" := by decide) (hdb : (x == ("__debug__" : Str)) = false := by decide)
    (he : starEach (e :: es) X.env = (false, eval e X.env) :: starEach es X.env := by rfl) (hpl : (backTo pos (starEach es X.env)).any (·.1) = false := by rfl) : SE B X W (.Call (.Name x p) (e :: es) [] pos) (mFn g ma) :=
  PE.imp (pe_callTy hc hg hm hv ha hn hdb he hpl) fun σ H Q h => disp_imp h
end
end NC
end S3
end
section
set_option Elab.async false
set_option linter.all false
set_option maxRecDepth 100000
set_option maxHeartbeats 4000000
namespace S3
open PySem PySem.Spec PyProof.Rows L2
noncomputable section NC
section
variable {B : Bx} {X : Cx} {W : WX}
def Off (is : List Nat) (σ σ' : L2.St) : Prop := σ'.length = σ.length ∧ ∀ j, j ∉ is → σ'[j]? = σ[j]?
abbrev Gt := AV → Sl → AH → Option Sl
abbrev Gts := List AV → Sl → AH → Option Sl
def tmGt (B : Bx) (is : List Nat) (t : Gt) : TG := fun v σ H Q => ∃ ρ F h s a s', SR B ρ F s σ ∧ HR B ρ F h H ∧ RV B ρ F a v ∧ t a s h = some s' ∧ ∀ σ', SR B ρ F s' σ' → Off is σ σ' → Q σ' H
def tmGts (B : Bx) (is : List Nat) (t : Gts) : TGs := fun v σ H Q => ∃ ρ F h s a s', SR B ρ F s σ ∧ HR B ρ F h H ∧ RVs B ρ F a v ∧ t a s h = some s' ∧ ∀ σ', SR B ρ F s' σ' → Off is σ σ' → Q σ' H
abbrev SG (B : Bx) (X : Cx) (tg : Expr) (is : List Nat) (t : Gt) : Prop := PG X tg (tmGt B is t)
abbrev SGs (B : Bx) (X : Cx) (tgs : List Expr) (is : List Nat) (t : Gts) : Prop := PGs X tgs (tmGts B is t)
theorem PG.imp {tg : Expr} {t t' : TG} (h : PG X tg t) (w : ∀ v σ H Q, t' v σ H Q → t v σ H Q) : PG X tg t' := ⟨fun pins s σ H v u Q I r q => h.run pins s σ H v u Q I r (w v σ H Q q)⟩
theorem PGs.imp {tgs : List Expr} {t t' : TGs} (h : PGs X tgs t) (w : ∀ v σ H Q, t' v σ H Q → t v σ H Q) : PGs X tgs t' := ⟨fun pins s σ H v u Q I r q => h.run pins s σ H v u Q I r (w v σ H Q q)⟩
def tName (i : Nat) : Gt := fun a s _ => some (s.set i (some a))
theorem off_set (i : Nat) (σ : L2.St) (v : Option V) : Off [i] σ (σ.set i v) := ⟨List.length_set, fun j hj => List.getElem?_set_ne fun z => hj (by rw [z]; simp)⟩
theorem sg_name {i : Nat} {x : Str} {pos : Pos} (hN : X.N.Nodup) (hi : X.N[i]? = some x) (hx : Loc X.env.scope x) (hf : X.fn x = true ∨ X.env.scope.names.lookup x = some .local := by first | exact .inl rfl | exact .inr rfl | assumption) : SG B X (.Name x pos) [i] (tName i) :=
  PG.imp (pg_name hN hi hx hf) fun v σ H Q ⟨ρ, F, h, s, a, s', sr, hr, ra, et, q⟩ => by
    have e : s.set i (some a) = s' := Option.some.inj et
    subst e
    exact q _ (sr.set ra i) (off_set i σ _)
def tNone : Gts := fun xs s _ => match xs with
  | [] => some s
  | _ => none
def tMore (t : Gt) (u : Gts) : Gts := fun xs s h => match xs with
  | x :: r => (t x s h).bind fun s1 => u r s1 h
  | [] => none
theorem sgs_nil : SGs B X [] [] tNone := PGs.imp pgs_nil fun v σ H Q ⟨ρ, F, h, s, a, s', sr, hr, ra, et, q⟩ => by
  cases a with
  | nil =>
    have e : s = s' := Option.some.inj et
    subst e
    exact ⟨ra, q σ sr ⟨rfl, fun _ _ => rfl⟩⟩
  | cons _ _ => cases et
theorem sgs_cons {e : Expr} {es : List Expr} {is js : List Nat} {t : Gt} {u : Gts} (h1 : SG B X e is t) (h2 : SGs B X es js u)
    (hs : (assignEach (e :: es) X.env).map (·.2) = assign e X.env :: (assignEach es X.env).map (·.2) := by rfl) : SGs B X (e :: es) (is ++ js) (tMore t u) :=
  PGs.imp (pgs_cons h1 h2 hs) fun v σ H Q ⟨ρ, F, h, s, a, s', sr, hr, ra, et, q⟩ => by
    cases a with
    | nil => cases et
    | cons x r =>
      obtain ⟨w, ws, e1, r1, r2⟩ := ra
      have et : ((t x s h).bind fun s1 => u r s1 h) = some s' := et
      cases k : t x s h with
      | none => rw [k] at et; cases et
      | some s1 =>
        rw [k] at et
        refine ⟨w, ws, e1, ρ, F, h, s, x, s1, sr, hr, r1, k, fun σ1 sr1 o1 => ⟨ρ, F, h, s1, r, s', sr1, hr, r2, et, fun σ2 sr2 o2 => q σ2 sr2 ⟨o2.1.trans o1.1, fun j hj => ?_⟩⟩⟩
        rw [o2.2 j fun z => hj (List.mem_append_right _ z), o1.2 j fun z => hj (List.mem_append_left _ z)]
def tTupT (n : Nat) (u : Gts) : Gt := fun a s h => match vT a with
  | some xs => if xs.length = n then u xs s h else none
  | none => none
theorem sg_tup {es : List Expr} {k : Nat} {n : Nat} {is : List Nat} {u : Gts} {pos : Pos} (hc : X.calm = true) (h : SGs B X es is u)
    (hn : (assignEach es X.env).length = n := by rfl) (hst : (assignEach es X.env).findIdx? (·.1) = none := by rfl) (hK : X.K = B.K := by rfl) : SG B X (.Tuple es k pos) is (tTupT n u) :=
  PG.imp (pg_tup hc h hn hst) fun v σ H Q ⟨ρ, F, h, s, a, s', sr, hr, ra, et, q⟩ => by
    unfold tTupT at et
    split at et
    · rename_i xs ev
      split at et
      · rename_i hl
        obtain ⟨p, vs, ex, qt, rs⟩ := vT_at hr ra ev
        exact ⟨p, vs, ex, by rw [hK]; exact qt, by rw [← RVs.length rs]; exact hl, ρ, F, h, s, xs, s', sr, hr, rs, et, q⟩
      · cases et
    · cases et
def mSkip : MS := fun s h => .nx s h
def Ss.then (r : Ss) (k : Sl → AH → Ss) : Ss := match r with
  | .nx s h => k s h
  | r => r
def mSeq (a b : MS) : MS := fun s h => (a s h).then b
theorem sss_nil : SSs B X W [] mSkip := PSs.imp pss_nil fun D σ H ⟨ρ, F, h, s, sr, hr, p⟩ => p ρ F H σ Ext.refl hr sr
theorem sss_cons {st : Stmt} {rest : List Stmt} {a b : MS} (h1 : SS B X W st a) (h2 : SSs B X W rest b) : SSs B X W (st :: rest) (mSeq a b) :=
  PSs.imp (pss_cons h1 h2) fun D σ H ⟨ρ, F, h, s, sr, hr, p⟩ => by
    refine ⟨ρ, F, h, s, sr, hr, ?_⟩
    have p : PostS B ρ F H ((a s h).then b) D W := p
    revert p
    cases a s h with
    | nx s1 h1 => exact fun p ρ' F' H' σ' e1 hr1 sr1 => ⟨ρ', F', h1, s1, sr1, hr1, PostS.ext e1 p⟩
    | rt a h1 => exact fun p => p
    | bk s1 h1 => exact fun p => p
    | ct s1 h1 => exact fun p => p
    | exc s1 c fs h1 => exact fun p => p
    | stk => exact fun p => p
theorem sss_one {st : Stmt} {a : MS} (h1 : SS B X W st a) : SSs B X W [st] a := pss_one h1
def mBrk : MS := fun s h => .bk s h
def mCnt : MS := fun s h => .ct s h
def mExprS (m : ME) : MS := fun s h => (m s h).toS s fun _ h1 => .nx s h1
theorem ss_expr {e : Expr} {m : ME} {pos : Pos} (he : SE B X W e m) (hs : swapsWith e none pos.line X.env = pure false := by rfl) : SS B X W (.Expr e pos) (mExprS m) :=
  PS.imp (ps_expr he hs) fun D σ H ⟨ρ, F, h, s, sr, hr, p⟩ => ⟨ρ, F, h, s, sr, hr, PostS.expr sr p fun a h1 ρ1 F1 H1 x _ e1 hr1 ra sr1 p1 => p1 _ _ _ _ Ext.refl hr1 sr1⟩
def mRet (m : ME) : MS := fun s h => (m s h).toS s fun a h1 => .rt a h1
theorem ss_ret {e : Expr} {m : ME} {pos : Pos} (he : SE B X W e m) : SS B X W (.Return (some e) pos) (mRet m) :=
  PS.imp (ps_ret he) fun D σ H ⟨ρ, F, h, s, sr, hr, p⟩ => ⟨ρ, F, h, s, sr, hr, PostS.expr sr p fun a h1 ρ1 F1 H1 x _ e1 hr1 ra sr1 p1 => p1 _ _ _ _ Ext.refl hr1 ra⟩
def mRetN : MS := fun _ h => .rt .non h
def mIfS (c : MT) (a b : MS) : MS := fun s h => (c s h).toS s fun x h1 => if x = true then a s h1 else b s h1
theorem ss_if {c : Expr} {sa sb : List Stmt} {mc : MT} {a b : MS} {pos : Pos} (hc : STt B X W c mc) (ha : SSs B X W sa a) (hb : SSs B X W sb b) : SS B X W (.If c sa sb pos) (mIfS mc a b) :=
  PS.imp (ps_if hc ha hb) fun D σ H ⟨ρ, F, h, s, sr, hr, p⟩ => ⟨ρ, F, h, s, sr, hr, PostS.expr sr p fun x h1 ρ1 F1 H1 y _ e1 hr1 ra sr1 p1 => by
    cases ra
    cases x with
    | true => exact ⟨ρ1, F1, h1, s, sr1, hr1, p1⟩
    | false => exact ⟨ρ1, F1, h1, s, sr1, hr1, p1⟩⟩
def mAsg (m : ME) (t : Gt) : MS := fun s h => (m s h).toS s fun a h1 => match t a s h1 with
  | some s1 => .nx s1 h1
  | none => .stk
theorem gt_imp {is : List Nat} {t : Gt} {ρ : List Addr} {F H : Hp} {h : AH} {s : Sl} {σ : L2.St} {a : AV} {x : V} {D : Ends} (sr : SR B ρ F s σ) (hr : HR B ρ F h H) (ra : RV B ρ F a x) (p : PostS B ρ F H (match t a s h with
  | some s1 => Ss.nx s1 h
  | none => .stk) D W) : tmGt B is t x σ H D.nx := by
  cases k : t a s h with
  | none => rw [k] at p; exact p.elim
  | some s1 =>
    rw [k] at p
    exact ⟨ρ, F, h, s, a, s1, sr, hr, ra, k, fun σ' sr' _ => p _ _ _ _ Ext.refl hr sr'⟩
theorem ss_asg {tg e : Expr} {m : ME} {t : Gt} {is : List Nat} {pos : Pos} (he : SE B X W e m) (hg : SG B X tg is t) (hs : swapsWithSole [tg] e pos.line X.env = pure false := by rfl) (hw : swappedStores [tg] e X.env = pure none := by rfl)
    (h1 : (assignEach [tg] X.env).map (·.2) = [assign tg X.env] := by rfl) : SS B X W (.Assign [tg] e pos) (mAsg m t) :=
  PS.imp (ps_asg he hg hs hw h1) fun D σ H ⟨ρ, F, h, s, sr, hr, p⟩ => ⟨ρ, F, h, s, sr, hr, PostS.expr sr p fun a h1 ρ1 F1 H1 x _ e1 hr1 ra sr1 p1 => gt_imp sr1 hr1 ra p1⟩
theorem ss_set {i : Nat} {x : Str} {e : Expr} {m : ME} {pos pos' : Pos} (hN : X.N.Nodup) (hi : X.N[i]? = some x) (hx : Loc X.env.scope x) (he : SE B X W e m) (hs : swapsWith e (some (.Name x pos')) pos.line X.env = pure false := by rfl) (hf : X.fn x = true ∨ X.env.scope.names.lookup x = some .local := by first | exact .inl rfl | exact .inr rfl | assumption) :
    SS B X W (.Assign [.Name x pos'] e pos) (mAsg m (tName i)) :=
  PS.imp (ps_set hN hi hx he hs hf) fun D σ H ⟨ρ, F, h, s, sr, hr, p⟩ => ⟨ρ, F, h, s, sr, hr, PostS.expr sr p fun a h1 ρ1 F1 H1 x _ e1 hr1 ra sr1 p1 => p1 _ _ _ _ Ext.refl hr1 (sr1.set ra i)⟩
/-- name op= e, where the operation is one of values -/
def mAug (i : Nat) (g : G2) (m : ME) : MS := fun s h => match s[i]? with
  | some (some a) => (m s h).toS s fun b h1 => match g a b h1 with
    | some c => .nx (s.set i (some c)) h1
    | none => .stk
  | _ => .stk
abbrev gAddI : G2 := gI2 (fun _ _ => True) fun i j => .int (i + j)
/-- raise X('..') -/
def mRaise (c : Str) : MS := fun s h => .exc s c [] h
theorem ss_raise {x m : Str} {j : Nat} {p p2 p3 pos : Pos} {C : Addr} {bmB : List Value} {bi newId initId : String} (F : ExcBaseFacts bi newId initId bmB) (q : PySem.W.excIn X.K C bmB newId = true) (gC : X.mg x = some (.ref C)) (kC : PySem.W.keepIn X.K (.ref C) = true) (r : Raises X (.ref C)) (hg : Gl X x)
    (hc : X.calm = true) (tk : Takes X W) (hC : B.mg x = some (.ref C)) (hdb : (x == ("__debug__" : Str)) = false := by decide) : SS B X W (.Raise (some (.Call (.Name x p) [.Constant (.str m) j p2] [] p3)) none pos) (mRaise x) :=
  PS.imp (ps_raise hc tk (pmk_own F q gC kC r hg hdb)) fun D σ H ⟨ρ, F, h, s, sr, hr, p⟩ => p ρ F H σ _ _ Ext.refl hr sr ⟨C, hC, rfl, .inl ⟨rfl, trivial⟩⟩
/-- o.f = e -/
def mFldSet (c f : Str) (mo mv : ME) : MS := fun s h => (mv s h).toS s fun v h1 => (mo s h1).toS s fun o h2 => match o with
  | .ref n => match h2[n]? with
    | some (.ins d fs) => if d = c ∧ fs.length < 1000 then .nx s (h2.set n (.ins c (putA f v fs))) else .stk
    | _ => .stk
  | _ => .stk
theorem ss_fld {o e : Expr} {c f : Str} {L : List Str} {mo mv : ME} {pos pos' : Pos} (hc : ClsF B c L) (hf : f ∈ L) (ho : SE B X W o mo) (hv : SE B X W e mv) (hs : swapsWith e (some (.Attribute o f pos')) pos.line X.env = pure false := by rfl) (hK : X.K = B.K := by rfl) :
    SS B X W (.Assign [.Attribute o f pos'] e pos) (mFldSet c f mo mv) :=
  PS.imp (ps_fld ho hv hs) fun D σ H ⟨ρ, F, h, s, sr, hr, p⟩ => ⟨ρ, F, h, s, sr, hr, PostS.expr sr p fun v h1 ρ1 F1 H1 y _ e1 hr1 rv sr1 p1 =>
    ⟨ρ1, F1, h1, s, sr1, hr1, PostS.expr sr1 p1 fun o h2 ρ2 F2 H2 x _ e2 hr2 ro sr2 p2 => by
      cases o with
      | ref n =>
        obtain ⟨q, eq, ex⟩ := ro
        obtain ⟨ob, eo, rob⟩ := hr2.at' eq
        simp only [eo] at p2
        cases ob with
        | ins d fs =>
          simp only at p2
          split at p2
          · rename_i hd
            obtain ⟨rfl, hl⟩ := hd
            obtain ⟨u, eu, C, dx, ws, e3, hm, rs⟩ := rob
            subst e3
            refine ⟨q, C, dx, ws, ex, eu, by rw [hK]; exact hc.cls C hm, by rw [hK]; exact hc.no C hm f hf, by rw [← RFs.length rs]; exact hl, ?_⟩
            obtain ⟨hr3, e4⟩ := hr2.writeN (o := .ins d (putA f v fs)) (u := .ins C dx (putF f y ws)) eq ⟨_, upd_same, C, dx, _, rfl, hm, RFs.put rs (rv.ext e2)⟩ eu (fun _ _ z => by cases z) (fun _ z => by rw [eo] at z; cases z)
            exact p2 _ _ _ _ e4 hr3 (sr2.ext e4)
          · exact p2.elim
        | _ => exact p2.elim
      | _ => exact p2.elim⟩⟩
end
end NC
end S3
end
section
set_option Elab.async false
set_option linter.all false
set_option maxRecDepth 100000
set_option maxHeartbeats 4000000
namespace S3
open PySem PySem.Spec PyProof.Rows L2
noncomputable section NC
section
variable {B : Bx} {X : Cx} {W : WX}
/-- what stands behind o[i] = v -/
def gSet (o i v : AV) (h : AH) : Option AH := match o with
  | .ref n => match h[n]? with
    | some (.lst xs) => match i with
      | .int k => (ixN xs.length k).map fun j => h.set n (.lst (xs.set j v))
      | _ => none
    | some (.dK kvs) => match keyOf i with
      | some k => if kvs.length < sizeLine then some (h.set n (.dK (kput kvs k v))) else none
      | none => none
    | some (.dT kvs) => match keyT i with
      | some k => if kvs.length < sizeLine then some (h.set n (.dT (kput kvs k v))) else none
      | none => none
    | _ => none
  | _ => none
def rmSet (B : Bx) : TSet := fun o i v H Q => ∃ ρ F h a b c h', HR B ρ F h H ∧ RV B ρ F a o ∧ RV B ρ F b i ∧ RV B ρ F c v ∧ gSet a b c h = some h' ∧ ∀ H', Ext ρ F H ρ F H' → HR B ρ F h' H' → Q H'
theorem RKs.length {ρ : List Addr} {F : Hp} {kvs : List (Key × AV)} {ws : List (Key × V)} (r : RKs B ρ F kvs ws) : kvs.length = ws.length := by
  induction kvs generalizing ws with
  | nil => have r : ws = [] := r; subst r; rfl
  | cons p r' ih =>
    obtain ⟨j, a⟩ := p
    obtain ⟨v, w, e, r1, r2⟩ := r
    subst e
    rw [List.length_cons, List.length_cons, ih r2]
theorem RTs.length {ρ : List Addr} {F : Hp} {kvs : List (List Key × AV)} {ws : List (List Key × V)} (r : RTs B ρ F kvs ws) : kvs.length = ws.length := by
  induction kvs generalizing ws with
  | nil => have r : ws = [] := r; subst r; rfl
  | cons p r' ih =>
    obtain ⟨j, a⟩ := p
    obtain ⟨v, w, e, r1, r2⟩ := r
    subst e
    rw [List.length_cons, List.length_cons, ih r2]
theorem RKs.any {ρ : List Addr} {F : Hp} {kvs : List (Key × AV)} {ws : List (Key × V)} (r : RKs B ρ F kvs ws) (k : Key) : (kvs.any fun kv => decide (kv.1 = k)) = ws.any fun kv => decide (kv.1 = k) := by
  induction kvs generalizing ws with
  | nil => have r : ws = [] := r; subst r; rfl
  | cons p r' ih =>
    obtain ⟨j, a⟩ := p
    obtain ⟨v, w, e, r1, r2⟩ := r
    subst e
    rw [List.any_cons, List.any_cons, ih r2]
theorem RTs.any {ρ : List Addr} {F : Hp} {kvs : List (List Key × AV)} {ws : List (List Key × V)} (r : RTs B ρ F kvs ws) (k : List Key) : (kvs.any fun kv => decide (kv.1 = k)) = ws.any fun kv => decide (kv.1 = k) := by
  induction kvs generalizing ws with
  | nil => have r : ws = [] := r; subst r; rfl
  | cons p r' ih =>
    obtain ⟨j, a⟩ := p
    obtain ⟨v, w, e, r1, r2⟩ := r
    subst e
    rw [List.any_cons, List.any_cons, ih r2]
theorem RKs.repl {ρ : List Addr} {F : Hp} {kvs : List (Key × AV)} {ws : List (Key × V)} (r : RKs B ρ F kvs ws) (k : Key) {c : AV} {x : V} (rc : RV B ρ F c x) : RKs B ρ F (kvs.map fun kv => if kv.1 = k then (kv.1, c) else kv) (ws.map fun kv => if kv.1 = k then (kv.1, x) else kv) := by
  induction kvs generalizing ws with
  | nil => have r : ws = [] := r; subst r; exact rfl
  | cons p r' ih =>
    obtain ⟨j, a⟩ := p
    obtain ⟨v, w, e, r1, r2⟩ := r
    subst e
    rw [List.map_cons, List.map_cons]
    by_cases hk : j = k
    · simp only [hk, if_true]
      exact ⟨x, _, rfl, rc, ih r2⟩
    · simp only [hk, if_false]
      exact ⟨v, _, rfl, r1, ih r2⟩
theorem RTs.repl {ρ : List Addr} {F : Hp} {kvs : List (List Key × AV)} {ws : List (List Key × V)} (r : RTs B ρ F kvs ws) (k : List Key) {c : AV} {x : V} (rc : RV B ρ F c x) : RTs B ρ F (kvs.map fun kv => if kv.1 = k then (kv.1, c) else kv) (ws.map fun kv => if kv.1 = k then (kv.1, x) else kv) := by
  induction kvs generalizing ws with
  | nil => have r : ws = [] := r; subst r; exact rfl
  | cons p r' ih =>
    obtain ⟨j, a⟩ := p
    obtain ⟨v, w, e, r1, r2⟩ := r
    subst e
    rw [List.map_cons, List.map_cons]
    by_cases hk : j = k
    · simp only [hk, if_true]
      exact ⟨x, _, rfl, rc, ih r2⟩
    · simp only [hk, if_false]
      exact ⟨v, _, rfl, r1, ih r2⟩
theorem RKs.snoc {ρ : List Addr} {F : Hp} {kvs : List (Key × AV)} {ws : List (Key × V)} (r : RKs B ρ F kvs ws) (k : Key) {c : AV} {x : V} (rc : RV B ρ F c x) : RKs B ρ F (kvs ++ [(k, c)]) (ws ++ [(k, x)]) := by
  induction kvs generalizing ws with
  | nil => have r : ws = [] := r; subst r; exact ⟨x, [], rfl, rc, rfl⟩
  | cons p r' ih =>
    obtain ⟨j, a⟩ := p
    obtain ⟨v, w, e, r1, r2⟩ := r
    subst e
    exact ⟨v, _, rfl, r1, ih r2⟩
theorem RTs.snoc {ρ : List Addr} {F : Hp} {kvs : List (List Key × AV)} {ws : List (List Key × V)} (r : RTs B ρ F kvs ws) (k : List Key) {c : AV} {x : V} (rc : RV B ρ F c x) : RTs B ρ F (kvs ++ [(k, c)]) (ws ++ [(k, x)]) := by
  induction kvs generalizing ws with
  | nil => have r : ws = [] := r; subst r; exact ⟨x, [], rfl, rc, rfl⟩
  | cons p r' ih =>
    obtain ⟨j, a⟩ := p
    obtain ⟨v, w, e, r1, r2⟩ := r
    subst e
    exact ⟨v, _, rfl, r1, ih r2⟩
theorem RKs.put {ρ : List Addr} {F : Hp} {kvs : List (Key × AV)} {ws : List (Key × V)} (r : RKs B ρ F kvs ws) (k : Key) {c : AV} {x : V} (rc : RV B ρ F c x) : RKs B ρ F (kput kvs k c) (putK ws k x) := by
  unfold kput putK
  rw [r.any k]
  split
  · exact r.repl k rc
  · exact r.snoc k rc
theorem RTs.put {ρ : List Addr} {F : Hp} {kvs : List (List Key × AV)} {ws : List (List Key × V)} (r : RTs B ρ F kvs ws) (k : List Key) {c : AV} {x : V} (rc : RV B ρ F c x) : RTs B ρ F (kput kvs k c) (putK ws k x) := by
  unfold kput putK
  rw [r.any k]
  split
  · exact r.repl k rc
  · exact r.snoc k rc
theorem RKs.drop {ρ : List Addr} {F : Hp} {kvs : List (Key × AV)} {ws : List (Key × V)} (r : RKs B ρ F kvs ws) (k : Key) : RKs B ρ F (kdrop kvs k) (dropK ws k) := by
  induction kvs generalizing ws with
  | nil => have r : ws = [] := r; subst r; exact rfl
  | cons p r' ih =>
    obtain ⟨j, a⟩ := p
    obtain ⟨v, w, e, r1, r2⟩ := r
    subst e
    unfold kdrop dropK
    rw [List.filter_cons, List.filter_cons]
    by_cases hk : j = k
    · rw [if_neg (by simp [hk]), if_neg (by simp [hk])]
      exact ih r2
    · rw [if_pos (by simp [hk]), if_pos (by simp [hk])]
      exact ⟨v, _, rfl, r1, ih r2⟩
theorem RTs.drop {ρ : List Addr} {F : Hp} {kvs : List (List Key × AV)} {ws : List (List Key × V)} (r : RTs B ρ F kvs ws) (k : List Key) : RTs B ρ F (kdrop kvs k) (dropK ws k) := by
  induction kvs generalizing ws with
  | nil => have r : ws = [] := r; subst r; exact rfl
  | cons p r' ih =>
    obtain ⟨j, a⟩ := p
    obtain ⟨v, w, e, r1, r2⟩ := r
    subst e
    unfold kdrop dropK
    rw [List.filter_cons, List.filter_cons]
    by_cases hk : j = k
    · rw [if_neg (by simp [hk]), if_neg (by simp [hk])]
      exact ih r2
    · rw [if_pos (by simp [hk]), if_pos (by simp [hk])]
      exact ⟨v, _, rfl, r1, ih r2⟩
theorem set_gSet (hu : X.A.units + 64 < cLine) : PSet X (rmSet B) := by
  intro pins s σ H o i v ov iv u Q I ro ri rv hh
  obtain ⟨ρ, F, h, a, b, c, h', hr, ra, rb, rc, ec, q⟩ := hh
  unfold gSet at ec
  cases a with
  | ref n =>
    obtain ⟨p, ep, ex⟩ := ra
    obtain ⟨ob, eo, rob⟩ := hr.at' ep
    simp only [eo] at ec
    cases ob with
    | lst xs =>
      simp only at ec
      split at ec
      · rename_i k
        obtain ⟨w, ew, vs, e1, rs⟩ := rob
        subst e1
        have rb : i = .int k := rb
        cases kj : ixN xs.length k with
        | none => rw [kj] at ec; cases ec
        | some j =>
          rw [kj] at ec
          cases ec
          obtain ⟨hr', e2⟩ := hr.write (o := .lst (xs.set j c)) (u := .lst (vs.set j v)) ep ⟨_, upd_same, _, rfl, rs.set j rc⟩ ew
          exact set_list pins s σ H o i v ov iv u Q I ro ri rv ⟨p, vs, k, j, ex, rb, ew, by rw [← RVs.length rs]; exact kj, q _ e2 hr'⟩
      · cases ec
    | dK kvs =>
      simp only at ec
      split at ec
      · rename_i k ek
        split at ec
        · rename_i hl
          cases ec
          obtain ⟨w, ew, ws, e1, rs⟩ := rob
          subst e1
          subst ex
          obtain rfl : ov = Value.ref p := ro
          obtain ⟨hr', e2⟩ := hr.write (o := .dK (kput kvs k c)) (u := .dK (putK ws k v)) ep ⟨_, upd_same, _, rfl, rs.put k rc⟩ ew
          exact d_setItem (by omega) I (.inl ⟨ws, k, ew, key_at rb ek, by rw [← RKs.length rs]; exact hl, rfl⟩) ri rv fun s' I' => ⟨_, I', q _ e2 hr'⟩
        · cases ec
      · cases ec
    | dT kvs =>
      simp only at ec
      split at ec
      · rename_i k ek
        split at ec
        · rename_i hl
          cases ec
          obtain ⟨w, ew, ws, e1, rs⟩ := rob
          subst e1
          subst ex
          obtain rfl : ov = Value.ref p := ro
          obtain ⟨b', eb, hb⟩ := keyT_at hr rb ek
          obtain ⟨hr', e2⟩ := hr.write (o := .dT (kput kvs k c)) (u := .dT (putK ws k v)) ep ⟨_, upd_same, _, rfl, rs.put k rc⟩ ew
          exact d_setItem (by omega) I (.inr ⟨ws, k, b', ew, eb, hb, by rw [← RTs.length rs]; exact hl, rfl⟩) ri rv fun s' I' => ⟨_, I', q _ e2 hr'⟩
        · cases ec
      · cases ec
    | _ => cases ec
  | _ => cases ec
def mSubSet (mo mi mv : ME) : MS := fun s h => (mv s h).toS s fun v h1 => (mo s h1).toS s fun o h2 => (mi s h2).toS s fun i h3 => match gSet o i v h3 with
  | some h4 => .nx s h4
  | none => .stk
theorem ss_sub {o i e : Expr} {mo mi mv : ME} {pos pos' : Pos} (hu : X.A.units + 64 < cLine) (ho : SE B X W o mo) (hi : SE B X W i mi) (hv : SE B X W e mv)
    (ha : ∀ v, assign (.Subscript o i pos') X.env v = (do
      let ov ← holding [v] (eval o X.env)
      let iv ← holding [v, ov] (eval i X.env)
      standAt pos'
      holding [v, ov, iv] (setItem ov iv v)
      release [v, ov, iv] []) := by intro _; rfl)
    (hs : swapsWithSole [.Subscript o i pos'] e pos.line X.env = pure false := by rfl) (hw : swappedStores [.Subscript o i pos'] e X.env = pure none := by rfl)
    (h1 : (assignEach [.Subscript o i pos'] X.env).map (·.2) = [assign (.Subscript o i pos') X.env] := by rfl) : SS B X W (.Assign [.Subscript o i pos'] e pos) (mSubSet mo mi mv) :=
  PS.imp (ps_asg hv (pg_sub ho hi (set_gSet (B := B) hu) ha) hs hw h1) fun D σ H ⟨ρ, F, h, s, sr, hr, p⟩ => ⟨ρ, F, h, s, sr, hr, PostS.expr sr p fun v h1 ρ1 F1 H1 x _ e1 hr1 rv sr1 p1 =>
    ⟨ρ1, F1, h1, s, sr1, hr1, PostS.expr sr1 p1 fun o h2 ρ2 F2 H2 y _ e2 hr2 ro sr2 p2 =>
      ⟨ρ2, F2, h2, s, sr2, hr2, PostS.expr sr2 p2 fun i h3 ρ3 F3 H3 z _ e3 hr3 ri sr3 p3 => by
        cases k : gSet o i v h3 with
        | none => rw [k] at p3; exact p3.elim
        | some h4 =>
          rw [k] at p3
          exact ⟨ρ3, F3, h3, o, i, v, h4, hr3, ro.ext e3, ri, (rv.ext e2).ext e3, k, fun H' e4 hr4 => p3 _ _ _ _ e4 hr4 (sr3.ext e4)⟩⟩⟩⟩
end
end NC
end S3
end
section
set_option Elab.async false
set_option linter.all false
set_option maxRecDepth 100000
set_option maxHeartbeats 4000000
namespace S3
open PySem PySem.Spec PyProof.Rows L2
noncomputable section NC
def Ss.lp (r : Ss) (k : Sl → AH → Ss) : Ss := match r with
  | .nx s h => k s h
  | .ct s h => k s h
  | .bk s h => .nx s h
  | r => r
def whileL (c : MT) (b : MS) : Nat → MS
  | 0 => fun _ _ => .stk
  | n + 1 => fun s h => (c s h).toS s fun x h1 => if x = true then (b s h1).lp (whileL c b n) else .nx s h1
def mWhile (f : Sl → AH → Nat) (c : MT) (b : MS) : MS := fun s h => whileL c b (f s h) s h
section
variable {B : Bx} {X : Cx} {W : WX}
/-- a turn of a loop -/
theorem lp_turn {ρ : List Addr} {F H : Hp} {r : Ss} {k : Sl → AH → Ss} {D : Ends} {N : L2.St → Hp → Prop} (p : PostS B ρ F H (r.lp k) D W)
    (q : ∀ ρ' F' H' σ' s' h', Ext ρ F H ρ' F' H' → HR B ρ' F' h' H' → SR B ρ' F' s' σ' → PostS B ρ' F' H' (k s' h') D W → N σ' H') : PostS B ρ F H r { D with nx := N, ct := N, bk := D.nx } W := by
  cases r with
  | nx s h => exact fun ρ' F' H' σ' e hr sr => q _ _ _ _ _ _ e hr sr (PostS.ext e p)
  | ct s h => exact fun ρ' F' H' σ' e hr sr => q _ _ _ _ _ _ e hr sr (PostS.ext e p)
  | bk s h => exact p
  | rt a h => exact p
  | exc s c fs h => exact p
  | stk => exact p
abbrev Rd := AH → Option (List AV)
abbrev MI := Sl → AH → Rs Rd
/-- the iterator gives what rd tells, as it stands -/
def IR (B : Bx) (ρ : List Addr) (F : Hp) (rd : Rd) (jh : It × Hp) : Prop := ∀ ρ' F' h H', Ext ρ F jh.2 ρ' F' H' → HR B ρ' F' h H' → ∀ xs, rd h = some xs →
  (∀ i, xs.length ≤ i → jh.1.stop i H') ∧ ∀ i x, xs[i]? = some x → jh.1.go i H' ∧ ∀ v H'', jh.1.yld i H' v H'' → ∃ ρ'' F'', Ext ρ' F' H' ρ'' F'' H'' ∧ HR B ρ'' F'' h H'' ∧ RV B ρ'' F'' x v
def tmI (B : Bx) (W : WX) (m : MI) : TI := fun σ H R => tmG B (IR B) W m σ H fun jh H' => jh.2 = H' → R jh.1 H'
abbrev SI (B : Bx) (X : Cx) (W : WX) (tg e : Expr) (m : MI) : Prop := PI X tg e (tmI B W m)
theorem PI.imp {tg e : Expr} {t t' : TI} (h : PI X tg e t) (w : ∀ σ H R, t' σ H R → t σ H R) : PI X tg e t' := ⟨fun pins s σ H R I q => h.run pins s σ H R I (w σ H R q)⟩
/-- items that stay -/
theorem IR.same {ρ : List Addr} {F H : Hp} {J : It} {rd : Rd} (h : ∀ ρ' F' h H', Ext ρ F H ρ' F' H' → HR B ρ' F' h H' → ∀ xs, rd h = some xs →
    (∀ i, xs.length ≤ i → J.stop i H') ∧ ∀ i x, xs[i]? = some x → J.go i H' ∧ ∀ v H'', J.yld i H' v H'' → H'' = H' ∧ RV B ρ' F' x v) : IR B ρ F rd (J, H) := fun ρ' F' h1 H' e hr xs ex => by
  obtain ⟨a, b⟩ := h ρ' F' h1 H' e hr xs ex
  refine ⟨a, fun i x hx => ?_⟩
  obtain ⟨c, d⟩ := b i x hx
  refine ⟨c, fun v H'' hy => ?_⟩
  obtain ⟨rfl, r⟩ := d v H'' hy
  exact ⟨ρ', F', Ext.refl, hr, r⟩
def mSq (m : ME) : MI := fun s h => (m s h).bind fun a h1 => match vLR h1 a with
  | some _ => .ok (fun h => vLR h a) h1
  | none => .stk
def mSqT (m : ME) : MI := fun s h => (m s h).bind fun a h1 => match vT a with
  | some xs => .ok (fun _ => some xs) h1
  | none => .stk
theorem RVs.nth {ρ : List Addr} {F : Hp} {xs : List AV} {vs : List V} (r : RVs B ρ F xs vs) {i : Nat} {x : AV} (e : xs[i]? = some x) : ∃ v, vs[i]? = some v ∧ RV B ρ F x v := by
  induction xs generalizing vs i with
  | nil => cases e
  | cons a t ih =>
    obtain ⟨v, w, ev, r1, r2⟩ := r
    subst ev
    cases i with
    | zero => cases e; exact ⟨v, rfl, r1⟩
    | succ i => exact ih r2 e
theorem si_list {tg e : Expr} {m : ME} (he : SE B X W e m) (hK : X.K = B.K := by rfl) : SI B X W tg e (mSq m) :=
  PI.imp (pi_list he) fun σ H R ⟨ρ, F, h, s, sr, hr, p⟩ => ⟨ρ, F, h, s, sr, hr, p.andThen fun a h1 ρ1 F1 H1 x _ e1 hr1 ra p1 => by
    cases k : vLR h1 a with
    | none => rw [k] at p1; exact p1.elim
    | some xs =>
      rw [k] at p1
      obtain ⟨q, vs, ex, qt, rs⟩ := vLR_at hr1 ra k
      refine ⟨q, ex, ⟨vs, by rw [hK]; exact qt⟩, p1 ρ1 F1 H1 (Itl X.K q, H1) Ext.refl hr1 (IR.same fun ρ' F' h' H' e' hr' ys ey => ?_) rfl⟩
      obtain ⟨q', ws, ex', qt', rs'⟩ := vLR_at hr' (ra.ext e') ey
      rw [ex] at ex'
      cases ex'
      rw [hK]
      refine ⟨fun i hi => ⟨ws, qt', by rw [← RVs.length rs']; exact hi⟩, fun i x hx => ?_⟩
      obtain ⟨v, ev, rv⟩ := rs'.nth hx
      refine ⟨⟨ws, v, qt', ev⟩, fun u H'' ⟨e1, e2⟩ => ⟨e1, ?_⟩⟩
      have := e2 ws qt'
      rw [ev] at this
      cases this
      exact rv⟩
theorem si_tup {tg e : Expr} {m : ME} (he : SE B X W e m) (hK : X.K = B.K := by rfl) : SI B X W tg e (mSqT m) :=
  PI.imp (pi_tup he) fun σ H R ⟨ρ, F, h, s, sr, hr, p⟩ => ⟨ρ, F, h, s, sr, hr, p.andThen fun a h1 ρ1 F1 H1 x _ e1 hr1 ra p1 => by
    cases k : vT a with
    | none => rw [k] at p1; exact p1.elim
    | some xs =>
      rw [k] at p1
      obtain ⟨q, vs, ex, qt, rs⟩ := vT_at hr1 ra k
      refine ⟨q, ex, ⟨vs, by rw [hK]; exact qt⟩, p1 ρ1 F1 H1 (Itt X.K q, H1) Ext.refl hr1 (IR.same fun ρ' F' h' H' e' hr' ys ey => ?_) rfl⟩
      have ey : some xs = some ys := ey
      cases ey
      obtain ⟨q', ws, ex', qt', rs'⟩ := vT_at hr' (ra.ext e') k
      rw [ex] at ex'
      cases ex'
      rw [hK]
      refine ⟨fun i hi => ⟨ws, qt', by rw [← RVs.length rs']; exact hi⟩, fun i x hx => ?_⟩
      obtain ⟨v, ev, rv⟩ := rs'.nth hx
      refine ⟨⟨ws, v, qt', ev⟩, fun u H'' ⟨e1, e2⟩ => ⟨e1, ?_⟩⟩
      have := e2 ws qt'
      rw [ev] at this
      cases this
      exact rv⟩
/-- lo, lo + c, .. (n of them) -/
def upL (lo c : Int) (n : Nat) : List AV := (List.range n).map fun (i : Nat) => .int (lo + i * c)
theorem upL_len (lo c : Int) (n : Nat) : (upL lo c n).length = n := by rw [upL, List.length_map, List.length_range]
theorem upL_at {lo c : Int} {n i : Nat} {x : AV} (e : (upL lo c n)[i]? = some x) : i < n ∧ x = .int (lo + i * c) := by
  have hi : i < n := by
    have := (List.getElem?_eq_some_iff.mp e).1
    rw [upL_len] at this
    exact this
  refine ⟨hi, ?_⟩
  rw [upL, List.getElem?_map, List.getElem?_range hi] at e
  cases e
  rfl
def rdC (xs : List AV) : Rd := fun _ => some xs
def okN (i : Int) : Prop := -(2 ^ 62) ≤ i ∧ i < 2 ^ 62
noncomputable instance (i : Int) : Decidable (okN i) := Classical.propDecidable _
noncomputable instance (i j c : Int) (n : Nat) : Decidable (RgC i j c n) := Classical.propDecidable _
def mRg1 (m : MA) : MI := fun s h => (m s h).bind fun xs h1 => match xs with
  | [.int j] => if okN j then .ok (rdC (upL 0 1 j.toNat)) h1 else .stk
  | _ => .stk
def mRg2 (m : MA) : MI := fun s h => (m s h).bind fun xs h1 => match xs with
  | [.int i, .int j] => if okN i ∧ okN j then .ok (rdC (upL i 1 (j - i).toNat)) h1 else .stk
  | _ => .stk
/-- how many items range(i, j, c) has -/
def rgN (i j c : Int) : Nat := if 0 < c then ((j - i + c - 1) / c).toNat else ((i - j - c - 1) / (-c)).toNat
def mRg3 (m : MA) : MI := fun s h => (m s h).bind fun xs h1 => match xs with
  | [.int i, .int j, .int c] => if RgC i j c (rgN i j c) then .ok (rdC (upL i c (rgN i j c))) h1 else .stk
  | _ => .stk
theorem IR.rng1 {ρ : List Addr} {F H : Hp} {lo : Int} {n : Nat} : IR B ρ F (rdC (upL lo 1 n)) (Itr lo n, H) := IR.same fun ρ' F' h' H' e' hr' ys ey => by
  have ey : some (upL lo 1 n) = some ys := ey
  cases ey
  refine ⟨fun i hi => by rw [upL_len] at hi; exact hi, fun i x hx => ?_⟩
  obtain ⟨hi, rfl⟩ := upL_at hx
  exact ⟨hi, fun v H'' ⟨e1, e2⟩ => ⟨e1, by rw [e2, Int.mul_one]; rfl⟩⟩
theorem ints1 {ρ : List Addr} {F : Hp} {i : Int} {vs : List V} (r : RVs B ρ F [.int i] vs) : vs = [.int i] := by
  obtain ⟨v, w, rfl, r1, r2⟩ := r
  have r1 : v = .int i := r1
  have r2 : w = [] := r2
  rw [r1, r2]
theorem ints2 {ρ : List Addr} {F : Hp} {i j : Int} {vs : List V} (r : RVs B ρ F [.int i, .int j] vs) : vs = [.int i, .int j] := by
  obtain ⟨v, w, rfl, r1, r2⟩ := r
  have r1 : v = .int i := r1
  rw [r1, ints1 r2]
theorem si_range1 {tg a : Expr} {m : MA} {p pos : Pos} (hg : Gl X "range") (hm : X.mg "range" = none) (ha : SA B X W [a] m) (hs : starEach [a] X.env = [(false, eval a X.env)] := by rfl) : SI B X W tg (.Call (.Name "range" p) [a] [] pos) (mRg1 m) :=
  PI.imp (pi_range1 hg hm ha hs) fun σ H R ⟨ρ, F, h, s, sr, hr, p⟩ => ⟨ρ, F, h, s, sr, hr, p.andThen fun a h1 ρ1 F1 H1 x _ e1 hr1 ra p1 => by
    split at p1
    · rename_i j _
      split at p1
      · rename_i hj
        exact ⟨j, ints1 ra, hj.1, hj.2, p1 ρ1 F1 H1 _ Ext.refl hr1 IR.rng1 rfl⟩
      · exact p1.elim
    · exact p1.elim⟩
end
end NC
end S3
end
section
set_option Elab.async false
set_option linter.all false
set_option maxRecDepth 100000
set_option maxHeartbeats 4000000
namespace S3
open PySem PySem.Spec PyProof.Rows L2
noncomputable section NC
section
variable {B : Bx} {X : Cx} {W : WX}
/-- reversed(list or tuple) that does not change -/
def mRev (m : ME) : MI := fun s h => (m s h).bind fun a h1 => match a with
  | .lst xs => .ok (rdC xs.reverse) h1
  | .rdl xs => .ok (rdC xs.reverse) h1
  | .tup xs => .ok (rdC xs.reverse) h1
  | .rdt xs => .ok (rdC xs.reverse) h1
  | _ => .stk
def enumL (xs : List AV) : List AV := xs.zipIdx.map fun x => .tup [.int (x.2 : Nat), x.1]
def mEnum (m : MA) : MI := fun s h => (m s h).bind fun as h1 => match as with
  | [a] => match vLR h1 a with
    | some _ => .ok (fun h => (vLR h a).map enumL) h1
    | none => .stk
  | _ => .stk
theorem RVs.one {ρ : List Addr} {F : Hp} {a : AV} {vs : List V} (r : RVs B ρ F [a] vs) : ∃ v, vs = [v] ∧ RV B ρ F a v := by
  obtain ⟨v, w, rfl, r1, r2⟩ := r
  have r2 : w = [] := r2
  exact ⟨v, by rw [r2], r1⟩
theorem RVs.two {ρ : List Addr} {F : Hp} {a b : AV} {vs : List V} (r : RVs B ρ F [a, b] vs) : ∃ v w, vs = [v, w] ∧ RV B ρ F a v ∧ RV B ρ F b w := by
  obtain ⟨v, w, rfl, r1, r2⟩ := r
  obtain ⟨w', rfl, r3⟩ := r2.one
  exact ⟨v, w', rfl, r1, r3⟩
end
end NC
end S3
end
section
set_option Elab.async false
set_option linter.all false
set_option maxRecDepth 100000
set_option maxHeartbeats 4000000
namespace S3
open PySem PySem.Spec PyProof.Rows L2
noncomputable section NC
def forL (rd : Rd) (t : Gt) (b : MS) : Nat → Nat → MS
  | n, i => fun s h => match rd h with
    | none => .stk
    | some xs => match xs[i]? with
      | none => .nx s h
      | some x => match n with
        | 0 => .stk
        | n + 1 => match t x s h with
          | none => .stk
          | some s1 => (b s1 h).lp (forL rd t b n (i + 1))
def rdLen (rd : Rd) (h : AH) : Nat := match rd h with
  | some xs => xs.length
  | none => 0
def mFor (mi : MI) (t : Gt) (b : MS) : MS := fun s h => (mi s h).toS s fun rd h1 => forL rd t b (rdLen rd h1) 0 s h1
section
variable {B : Bx} {X : Cx} {W : WX}
theorem ss_for {tg iter : Expr} {body : List Stmt} {mi : MI} {is : List Nat} {t : Gt} {b : MS} {pos : Pos} (hp : PassesOwn (model X.prog X.w) X.A X.env X.xe) (hc : X.calm = true) (hi : SI B X W tg iter mi) (hg : SG B X tg is t) (hb : SSs B X W body b)
    (hs : ∀ x, foldedSetIterable iter X.env x = pure x := by intro _; rfl) : SS B X W (.For tg iter body [] pos) (mFor mi t b) :=
  PS.imp (ps_for hp hc hi hg hb hs) fun D σ H ⟨ρ, F, h, s, sr, hr, p⟩ => by
    refine ⟨ρ, F, h, s, sr, hr, PostS.expr sr p fun rd h1 ρ1 F1 H1 jh _ e1 hr1 ri sr1 p1 ej => ?_⟩
    subst ej
    refine ⟨fun i m σ H => ∃ ρ F h s, Ext ρ1 F1 jh.2 ρ F H ∧ SR B ρ F s σ ∧ HR B ρ F h H ∧ PostS B ρ F H (forL rd t b m i s h) D W, ⟨_, ρ1, F1, h1, s, Ext.refl, sr1, hr1, p1⟩, fun i m σ H ⟨ρ, F, h, s, ex, sr, hr, p⟩ => ?_⟩
    unfold forL at p
    cases k : rd h with
    | none => simp only [k] at p; exact p.elim
    | some xs =>
      simp only [k] at p
      obtain ⟨r1, r2⟩ := ri ρ F h H ex hr xs k
      cases k2 : xs[i]? with
      | none =>
        simp only [k2] at p
        exact .inl ⟨r1 i (List.getElem?_eq_none_iff.mp k2), p _ _ _ _ Ext.refl hr sr⟩
      | some x =>
        simp only [k2] at p
        obtain ⟨go, yl⟩ := r2 i x k2
        cases m with
        | zero => exact p.elim
        | succ m =>
          simp only at p
          refine .inr ⟨go, fun σ H => ∃ ρ F h s, Ext ρ1 F1 jh.2 ρ F H ∧ SR B ρ F s σ ∧ HR B ρ F h H ∧ PostS B ρ F H (forL rd t b m (i + 1) s h) D W, fun σ' H' z => ⟨m, Nat.lt_succ_self m, z⟩, fun v H' hy => ?_⟩
          obtain ⟨ρ2, F2, ex2, hr2, rv⟩ := yl v H' hy
          cases k3 : t x s h with
          | none => simp only [k3] at p; exact p.elim
          | some s1 =>
            simp only [k3] at p
            refine ⟨ρ2, F2, h, s, x, s1, sr.ext ex2, hr2, rv, k3, fun σ2 sr2 _ => ⟨ρ2, F2, h, s1, sr2, hr2, ?_⟩⟩
            exact lp_turn (PostS.ext ex2 p) fun ρ' F' H' σ' s' h' e hr' sr' p' => ⟨ρ', F', h', s', (ex.trans ex2).trans e, sr', hr', p'⟩
theorem Ext.priv {ρ ρ' : List Addr} {F F' H H' : Hp} {p : Addr} {u : HO} (e : Ext ρ F H ρ' F' H') (hp : H p = some u) (nt : ∀ ps, u ≠ .tbl ps) (tu : ∀ xs, u ≠ .tup xs) (n : p ∉ ρ) (f : F p = none) : p ∉ ρ' ∧ F' p = none := ⟨e.rnew p u hp nt n, e.fnew p u hp nt tu n f⟩
theorem Ext.updP {ρ ρ' : List Addr} {F F' H H' : Hp} {p : Addr} {u : HO} (e : Ext ρ F H ρ' F' H') (hp : H p = none) : Ext ρ F H ρ' F' (upd H' p u) := by
  have ne : ∀ q w, H q = some w → q ≠ p := fun q w e z => by rw [z, hp] at e; cases e
  refine ⟨e.pre, e.fz, fun q w eq n nt => ?_, e.fnew, e.rnew, fun q o w eq => ?_, e.fnl⟩
  · rw [upd_ne (ne q w eq)]; exact e.keep q w eq n nt
  · rw [upd_ne (ne q _ eq)]; exact e.lk q o w eq
theorem HR.updP {ρ : List Addr} {F H : Hp} {h : AH} {p : Addr} {u u' : HO} (x : HR B ρ F h H) (n : p ∉ ρ) (f : F p = none) (e : H p = some u) (n1 : ∀ ps, u ≠ .tbl ps) (n2 : ∀ φ, u ≠ .ext φ) : HR B ρ F h (upd H p u') := by
  refine ⟨fun q w eq => ?_, x.len, x.nd, x.sep, fun i q ob e1 e2 => ?_, tabs_write e n1 n2 x.tab, x.ntb⟩
  · have hq : q ≠ p := fun z => by rw [z, f] at eq; cases eq
    rw [upd_ne hq]
    exact x.sub q w eq
  · have hq : q ≠ p := fun z => n (z ▸ List.mem_of_getElem? e1)
    exact OR.to (fun _ _ e => e) (fun _ _ e => e) (fun w e => by rw [upd_ne hq]; exact e) (x.obj i q ob e1 e2)
theorem HR.intoF {ρ : List Addr} {F H : Hp} {h : AH} {p : Addr} {u : HO} (x : HR B ρ F h H) (n : p ∉ ρ) (f : F p = none) (e : H p = some u) (nt : ∀ ps, u ≠ .tbl ps := by intro _ z; cases z) : HR B ρ (upd F p u) h H := by
  have fz : ∀ q w, F q = some w → upd F p u q = some w := upd_old f
  refine ⟨fun q w eq => ?_, x.len, x.nd, fun i q m g => ?_, fun i q o e1 e2 => OR.to (fun _ _ e => e) fz (fun w e => e) (x.obj i q o e1 e2), x.tab, fun q ps e => by
    by_cases hq : q = p
    · rw [hq, upd_same] at e
      exact nt _ (Option.some.inj e)
    · rw [upd_ne hq] at e
      exact x.ntb q ps e⟩
  · by_cases hq : q = p
    · subst hq
      rw [upd_same] at eq
      rw [← eq]; exact e
    · rw [upd_ne hq] at eq
      exact x.sub q w eq
  · have hq : q ≠ p := fun z => n (z ▸ List.mem_of_getElem? m)
    rw [upd_ne hq]
    exact x.sep i q m g
theorem Ext.intoF {ρ ρ' : List Addr} {F F' H H' : Hp} {p : Addr} {u : HO} (x : Ext ρ F H ρ' F' H') (f : F' p = none) (n : H p = none) : Ext ρ F H ρ' (upd F' p u) H' :=
  ⟨x.pre, fun q w e => upd_old f _ _ (x.fz q w e), x.keep, fun q w e nt tu m g => by rw [upd_ne (ne_of_none e n)]; exact x.fnew q w e nt tu m g, x.rnew, x.lk, fun q o w e g => by rw [upd_ne (ne_of_none e n)]; exact x.fnl q o w e g⟩
theorem Ext.intoFt {ρ ρ' : List Addr} {F F' H H' : Hp} {p : Addr} {u : HO} (x : Ext ρ F H ρ' F' H') (f : F' p = none) (n : ∀ w, H p = some w → (∀ ps, w ≠ .tbl ps) → False) : Ext ρ F H ρ' (upd F' p u) H' :=
  ⟨x.pre, fun q w e => upd_old f _ _ (x.fz q w e), x.keep, fun q w e nt tu m g => by rw [upd_ne (fun z : q = p => n w (by rw [← z]; exact e) nt)]; exact x.fnew q w e nt tu m g, x.rnew, x.lk, fun q o w e g => by rw [upd_ne (fun z : q = p => n _ (by rw [← z]; exact e) (by intro _ y; cases y))]; exact x.fnl q o w e g⟩
def wipeA (s : Sl) : List Nat → Sl
  | [] => s
  | v :: vs => (wipeA s vs).set v none
theorem SR.wipe {ρ : List Addr} {F : Hp} {s : Sl} {σ : L2.St} (x : SR B ρ F s σ) : ∀ vs : List Nat, SR B ρ F (wipeA s vs) (wipe σ vs)
  | [] => x
  | v :: vs => by
    obtain ⟨h1, h2⟩ := SR.wipe x vs
    refine ⟨by rw [wipeA, L2.wipe, List.length_set, List.length_set]; exact h1, fun i a e => ?_⟩
    rw [wipeA] at e
    rw [L2.wipe]
    by_cases hi : v = i
    · subst hi
      by_cases hl : v < (wipeA s vs).length
      · rw [List.getElem?_set_self hl] at e
        cases e
      · rw [List.getElem?_eq_none_iff.mpr (by rw [List.length_set]; omega)] at e
        cases e
    · rw [List.getElem?_set_ne hi] at e ⊢
      exact h2 i a e
theorem wipe_at {σ : L2.St} {j : Nat} : ∀ {vs : List Nat}, (wipe σ vs)[j]? = if j ∈ vs ∧ j < σ.length then some none else σ[j]?
  | [] => by simp [L2.wipe]
  | v :: vs => by
    rw [L2.wipe]
    by_cases hv : v = j
    · subst hv
      by_cases hl : v < σ.length
      · rw [List.getElem?_set_self (by rw [wipe_length]; exact hl), if_pos ⟨List.mem_cons_self, hl⟩]
      · rw [List.getElem?_eq_none_iff.mpr (by rw [List.length_set, wipe_length]; omega), if_neg (fun z => hl z.2), List.getElem?_eq_none_iff.mpr (by omega)]
    · rw [List.getElem?_set_ne hv, wipe_at]
      have : (j ∈ v :: vs) ↔ j ∈ vs := by
        rw [List.mem_cons]
        exact ⟨fun z => z.resolve_left fun z => hv z.symm, .inr⟩
      simp only [this]
theorem off_wipe {is vs : List Nat} {σ σ' : L2.St} (o : Off is σ σ') (h : ∀ i, i ∈ is → i ∈ vs) : wipe σ' vs = wipe σ vs := by
  apply List.ext_getElem?
  intro j
  rw [wipe_at, wipe_at, o.1]
  split
  · rfl
  · rename_i hn
    by_cases hj : j ∈ is
    · have hl : ¬ j < σ.length := fun z => hn ⟨h j hj, z⟩
      rw [List.getElem?_eq_none_iff.mpr (by rw [o.1]; omega), List.getElem?_eq_none_iff.mpr (by omega)]
    · exact o.2 j hj
theorem wipe_wipe {vs : List Nat} {σ : L2.St} : wipe (wipe σ vs) vs = wipe σ vs := by
  apply List.ext_getElem?
  intro j
  rw [wipe_at, wipe_at, wipe_length]
  split
  · rfl
  · rfl
def lcL (rd : Rd) (t : Gt) (c : MT) (e : ME) (s0 : Sl) : Nat → Nat → List AV → AH → Rs (List AV)
  | n, i, acc, h => match rd h with
    | none => .stk
    | some xs => match xs[i]? with
      | none => .ok acc h
      | some x => match n with
        | 0 => .stk
        | n + 1 => match t x s0 h with
          | none => .stk
          | some s1 => match c s1 h with
            | .ok b h1 => if b = true then match e s1 h1 with
                | .ok y h2 => if acc.length < sizeLine then lcL rd t c e s0 n (i + 1) (acc ++ [y]) h2 else .stk
                | _ => .stk
              else lcL rd t c e s0 n (i + 1) acc h1
            | _ => .stk
def mYes : MT := fun _ h => .ok true h
def mLcA (mi : MI) (t : Gt) (c : MT) (e : ME) (vs : List Nat) : MA := fun s h => (mi s h).bind fun rd h1 => lcL rd t c e (wipeA s vs) (rdLen rd h1) 0 [] h1
def mLc (mi : MI) (t : Gt) (c : MT) (e : ME) (vs : List Nat) : ME := fun s h => (mLcA mi t c e vs s h).bind fun xs h1 => .ok (.lst xs) h1
def mLcM (mi : MI) (t : Gt) (c : MT) (e : ME) (vs : List Nat) : ME := fun s h => (mLcA mi t c e vs s h).bind fun xs h1 => .ok (.ref h1.length) (h1 ++ [.lst xs])
def noW : WX := fun _ _ _ _ => False
/-- the comprehension tells its items; what becomes of the list is k's choice -/
theorem lc_imp {mi : MI} {is : List Nat} {t : Gt} {c : MT} {e : ME} {vs : List Nat} {σ : L2.St} {H : Hp} {Q : VK} {ρ : List Addr} {F : Hp} {h : AH} {s : Sl} {k : List AV → AH → Rs AV} (sr : SR B ρ F s σ) (hr : HR B ρ F h H) (hv : ∀ i, i ∈ is → i ∈ vs)
    (p : Post B (RV B) ρ F H ((mLcA mi t c e vs s h).bind k) Q fun cls d H' => W cls d σ H')
    (hk : ∀ ρ1 F1 H1 ρ' F' H' xs ws h' D, Ext ρ1 F1 H1 ρ' F' H' → H1 D = none → HR B ρ' F' h' H' → D ∉ ρ' → F' D = none → H' D = some (.lst ws) → RVs B ρ' F' xs ws → Post B (RV B) ρ1 F1 H1 (k xs h') Q (fun cls d H' => W cls d σ H') → Q (.ref D) H') :
    tLc (tmI B W mi) (tmGt B is t) (tmT B noW c) (tm B noW e) vs σ H Q := by
  refine ⟨ρ, F, h, s, sr, hr, ?_⟩
  have p : Post B (RV B) ρ F H (((mi s h).bind fun rd h1 => lcL rd t c e (wipeA s vs) (rdLen rd h1) 0 [] h1).bind k) Q fun cls d H' => W cls d σ H' := p
  have p : Post B (RV B) ρ F H ((mi s h).bind fun rd h1 => (lcL rd t c e (wipeA s vs) (rdLen rd h1) 0 [] h1).bind k) Q fun cls d H' => W cls d σ H' := by
    revert p
    cases mi s h <;> exact fun p => p
  refine p.andThen fun rd h1 ρ1 F1 H1 jh _ e1 hr1 ri p1 ej D hD => ?_
  subst ej
  have sr1 := (sr.ext e1).wipe vs
  obtain ⟨hr2, ex2⟩ := hr1.newP hD (.lst [])
  have nD : D ∉ ρ1 := hr1.out hD
  have fD : F1 D = none := hr1.fnone hD
  refine ⟨fun i m H => ∃ ρ' F' h' acc ws, Ext ρ1 F1 jh.2 ρ' F' H ∧ HR B ρ' F' h' H ∧ D ∉ ρ' ∧ F' D = none ∧ H D = some (.lst ws) ∧ RVs B ρ' F' acc ws ∧ Post B (RV B) ρ1 F1 jh.2 ((lcL rd t c e (wipeA s vs) m i acc h').bind k) Q (fun cls d H' => W cls d σ H'),
    ⟨_, ρ1, F1, h1, [], [], ex2, hr2, nD, fD, upd_same, rfl, p1⟩, fun i m H ⟨ρ', F', h', acc, ws, ex, hr', nd', fd', hw, ra, p⟩ => ?_⟩
  unfold lcL at p
  cases k1 : rd h' with
  | none => simp only [k1] at p; exact p.elim
  | some xs =>
    simp only [k1] at p
    obtain ⟨r1, r2⟩ := ri ρ' F' h' H ex hr' xs k1
    cases k2 : xs[i]? with
    | none =>
      simp only [k2] at p
      exact .inl ⟨r1 i (List.getElem?_eq_none_iff.mp k2), hk ρ1 F1 jh.2 ρ' F' H acc ws h' D ex hD hr' nd' fd' hw ra p⟩
    | some x =>
      simp only [k2] at p
      obtain ⟨go, yl⟩ := r2 i x k2
      cases m with
      | zero => exact p.elim
      | succ m =>
        simp only at p
        refine .inr ⟨go, fun H => ∃ ρ' F' h' acc ws, Ext ρ1 F1 jh.2 ρ' F' H ∧ HR B ρ' F' h' H ∧ D ∉ ρ' ∧ F' D = none ∧ H D = some (.lst ws) ∧ RVs B ρ' F' acc ws ∧ Post B (RV B) ρ1 F1 jh.2 ((lcL rd t c e (wipeA s vs) m (i + 1) acc h').bind k) Q (fun cls d H' => W cls d σ H'), fun H' z => ⟨m, Nat.lt_succ_self m, z⟩, fun v H' hy => ?_⟩
        obtain ⟨ρ2, F2, ey, hr2, rv⟩ := yl v H' hy
        cases k3 : t x (wipeA s vs) h' with
        | none => simp only [k3] at p; exact p.elim
        | some s1 =>
          simp only [k3] at p
          refine ⟨ρ2, F2, h', wipeA s vs, x, s1, (sr1.ext ex).ext ey, hr2, rv, k3, fun σ2 sr2 o2 => ⟨by rw [off_wipe o2 hv, wipe_wipe], ρ2, F2, h', s1, sr2, hr2, ?_⟩⟩
          cases k4 : c s1 h' with
          | exc _ _ _ => simp only [k4] at p; exact p.elim
          | stk => simp only [k4] at p; exact p.elim
          | ok b h3 =>
            simp only [k4] at p
            intro ρ3 F3 H3 b' e3 hr3 eb
            cases eb
            have ex3 := (ex.trans ey).trans e3
            have e23 := ey.trans e3
            obtain ⟨nd3, fd3⟩ := e23.priv hw (fun _ z => nomatch z) (fun _ z => nomatch z) nd' fd'
            have hw3 := e23.keep D _ hw nd' (fun _ z => nomatch z)
            have ra3 := ra.ext e23
            cases b with
            | false => exact ⟨ρ3, F3, h3, acc, ws, ex3, hr3, nd3, fd3, hw3, ra3, p⟩
            | true =>
              simp only [if_true] at p
              refine ⟨ρ3, F3, h3, s1, sr2.ext e3, hr3, ?_⟩
              cases k5 : e s1 h3 with
              | exc _ _ _ => simp only [k5] at p; exact p.elim
              | stk => simp only [k5] at p; exact p.elim
              | ok y h4 =>
                simp only [k5] at p
                intro ρ4 F4 H4 yv e4 hr4 ry
                split at p
                · rename_i hl
                  obtain ⟨nd4, fd4⟩ := e4.priv hw3 (fun _ z => nomatch z) (fun _ z => nomatch z) nd3 fd3
                  have hw4 := e4.keep D _ hw3 nd3 (fun _ z => nomatch z)
                  have ra4 := ra3.ext e4
                  refine ⟨ws, hw4, by rw [← RVs.length ra]; exact hl, ρ4, F4, h4, acc ++ [y], ws ++ [yv], (ex3.trans e4).updP hD, hr4.updP nd4 fd4 hw4 (fun _ z => nomatch z) (fun _ z => nomatch z), nd4, fd4, upd_same, ?_, p⟩
                  exact RVs.append ra4 ⟨yv, [], rfl, ry, rfl⟩
                · exact p.elim
end
end NC
end S3
end
section
set_option Elab.async false
set_option linter.all false
set_option maxRecDepth 100000
set_option maxHeartbeats 4000000
namespace S3
open PySem PySem.Spec PyProof.Rows L2
noncomputable section NC
section
variable {B : Bx} {X : Cx} {W : WX}
abbrev STs (B : Bx) (X : Cx) (ifs : List Expr) (m : MT) : Prop := PTs X ifs (tmT B noW m)
theorem PTs.imp {ifs : List Expr} {t t' : TT} (h : PTs X ifs t) (w : ∀ σ H Q, t' σ H Q → t σ H Q) : PTs X ifs t' := ⟨fun pins s σ H Q I q => h.run pins s σ H Q I (w σ H Q q)⟩
theorem sts_nil : STs B X [] mYes := PTs.imp pts_nil fun σ H Q ⟨ρ, F, h, s, sr, hr, p⟩ => p ρ F H true Ext.refl hr rfl
theorem lc_F {mi : MI} {is : List Nat} {t : Gt} {c : MT} {e : ME} {vs : List Nat} (hv : ∀ i, i ∈ is → i ∈ vs) {σ : L2.St} {H : Hp} {Q : VK} (h : tm B W (mLc mi t c e vs) σ H Q) : tLc (tmI B W mi) (tmGt B is t) (tmT B noW c) (tm B noW e) vs σ H Q := by
  obtain ⟨ρ, F, h, s, sr, hr, p⟩ := h
  refine lc_imp sr hr hv p fun ρ1 F1 H1 ρ' F' H' xs ws h' D ex hD hr' nd fd hw ra p1 => ?_
  exact p1 ρ' _ H' _ (ex.intoF fd hD) (hr'.intoF nd fd hw) ⟨D, ws, rfl, .inl upd_same, RVs.mono (fun _ _ e => e) (upd_old fd) _ _ ra⟩
/-- what the parts of a comprehension are told under -/
abbrev Blk (X : Cx) (scope : Scope) (P : Cx → Prop) : Prop := ∀ (s : Shared) (H : Hp) (C : Addr) (cl : List (Str × Addr)) (fp : List Addr), P (X.blk s H scope (compEnvC scope cl C X.env) fp)
section
variable {elt tg iter : Expr} {ifs : List Expr} {scope : Scope} {own : List (Str × Nat)} {pos : Pos} {mi : MI} {is : List Nat} {t : Gt} {c : MT} {m : ME}
theorem se_lc (hc : X.calm = true) (hN : X.N.Nodup) (ok : BlkOk X.N X.env.scope scope own) (hi : SI B X W tg iter mi) (hg : Blk X scope fun X' => SG B X' tg is t) (ht : Blk X scope fun X' => STs B X' ifs c) (he : Blk X scope fun X' => SE B X' noW elt m)
    (hv : ∀ i, i ∈ is → i ∈ own.map (·.2)) (hs : ∀ x, foldedSetIterable iter X.env x = pure x := by intro _; rfl) : SE B X W (.ListComp elt [⟨tg, iter, ifs, 0⟩] scope pos) (mLc mi t c m (own.map (·.2))) :=
  PE.imp (pe_lc hc hN hi ok hg ht he hs) fun _ _ _ h => lc_F hv h
theorem asg_imp {i : Nat} {m : ME} {te : TE} (w : ∀ σ H Q, tm B W m σ H Q → te σ H Q) {D : Ends} {σ : L2.St} {H : Hp} (h : tms B W (mAsg m (tName i)) D σ H) : tAsg te (gName i) D σ H := by
  obtain ⟨ρ, F, h, s, sr, hr, p⟩ := h
  exact w σ H _ ⟨ρ, F, h, s, sr, hr, PostS.expr sr p fun a h1 ρ1 F1 H1 x _ e1 hr1 ra sr1 p1 => p1 _ _ _ _ Ext.refl hr1 (sr1.set ra i)⟩
section
variable {i : Nat} {y : Str} {py spos : Pos}
theorem ss_setLc (hc : X.calm = true) (hN : X.N.Nodup) (hy : X.N[i]? = some y) (hyl : X.env.scope.names.lookup y = some .local) (ok : BlkOk X.N X.env.scope scope own) (hi : SI B X W tg iter mi) (hg : Blk X scope fun X' => SG B X' tg is t) (ht : Blk X scope fun X' => STs B X' ifs c) (he : Blk X scope fun X' => SE B X' noW elt m)
    (hv : ∀ i, i ∈ is → i ∈ own.map (·.2)) (hsw : swapsWith (.ListComp elt [⟨tg, iter, ifs, 0⟩] scope pos) (some (.Name y py)) spos.line X.env = pure true) (hs : ∀ x, foldedSetIterable iter X.env x = pure x := by intro _; rfl) :
    SS B X W (.Assign [.Name y py] (.ListComp elt [⟨tg, iter, ifs, 0⟩] scope pos) spos) (mAsg (mLc mi t c m (own.map (·.2))) (tName i)) :=
  PS.imp (ps_setLc hc hN hy hyl hsw hi ok hg ht he hs) fun _ _ _ h => asg_imp (fun _ _ _ h => lc_F hv h) h
end
end
def kA : Key → AV
  | .inl i => .int i
  | .inr x => .str x
theorem kA_at {ρ : List Addr} {F : Hp} (k : Key) : RV B ρ F (kA k) (kV k) := by
  cases k with
  | inl i => exact rfl
  | inr x => exact rfl
theorem RKs.nth {ρ : List Addr} {F : Hp} {kvs : List (Key × AV)} {ws : List (Key × V)} (r : RKs B ρ F kvs ws) {i : Nat} {k : Key} {a : AV} (e : kvs[i]? = some (k, a)) : ∃ v, ws[i]? = some (k, v) ∧ RV B ρ F a v := by
  induction kvs generalizing ws i with
  | nil => cases e
  | cons p t ih =>
    obtain ⟨j, b⟩ := p
    obtain ⟨v, w, ev, r1, r2⟩ := r
    subst ev
    cases i with
    | zero => cases e; exact ⟨v, rfl, r1⟩
    | succ i => exact ih r2 e
theorem RKs.ext {ρ ρ' : List Addr} {F F' H H' : Hp} (x : Ext ρ F H ρ' F' H') {a : List (Key × AV)} {v : List (Key × V)} (y : RKs B ρ F a v) : RKs B ρ' F' a v := RKs.mono x.pre x.fz _ _ y
theorem map_at {α β : Type} {l : List α} {f : α → β} {i : Nat} {x : β} (e : (l.map f)[i]? = some x) : ∃ y, l[i]? = some y ∧ f y = x := by
  rw [List.getElem?_map] at e
  cases k : l[i]? with
  | none => rw [k] at e; cases e
  | some y => rw [k] at e; cases e; exact ⟨y, rfl, rfl⟩
theorem ix_lt {α : Type} {l : List α} {i : Nat} {x : α} (e : l[i]? = some x) : i < l.length := (List.getElem?_eq_some_iff.mp e).1
theorem IR.keys {ρ : List Addr} {F H : Hp} {p : Addr} {o : Obj} {kvs : List (Key × AV)} {ws : List (Key × V)} (hp : H p = some (.frz o (.dK ws))) (rs : RKs B ρ F kvs ws) : IR B ρ F (rdC (kvs.map fun x => kA x.1)) (Itk p o ws, H) := IR.same fun ρ' F' h' H' e' hr' ys ey => by
  have ey : some (kvs.map fun x => kA x.1) = some ys := ey
  cases ey
  have hp' := e'.lk _ _ _ hp
  have hl := RKs.length rs
  refine ⟨fun i hi => ⟨hp', by rw [List.length_map] at hi; omega⟩, fun i x hx => ?_⟩
  obtain ⟨⟨k, a⟩, g1, rfl⟩ := map_at hx
  obtain ⟨v, g2, rv⟩ := rs.nth g1
  refine ⟨⟨hp', ix_lt g2⟩, fun u H'' ⟨e1, k', v', g3, g4⟩ => ⟨e1, ?_⟩⟩
  rw [g2] at g3
  cases g3
  rw [g4]
  exact kA_at k
section
variable {tg e : Expr} {m : ME} {apos cpos : Pos}
end
end
end NC
end S3
end
section
set_option Elab.async false
set_option linter.all false
set_option maxRecDepth 100000
set_option maxHeartbeats 4000000
namespace S3
open PySem PySem.Spec PyProof.Rows L2
noncomputable section NC
section
variable {B : Bx} {X : Cx} {W : WX}
theorem OU.to {o : AO} {u : HO} {H : Hp} {p : Addr} {ρ : List Addr} {F : Hp} (r : OU B ρ F o u) (e : H p = some u) : OR B ρ F H p o := by
  cases o with
  | lck o => exact r.elim
  | _ => exact ⟨u, e, r⟩
theorem PS.or {st : Stmt} {t t' : TS} (h : PS X st t) (h' : PS X st t') : PS X st fun D σ H => t D σ H ∨ t' D σ H := ⟨fun pins s σ H D I q => q.elim (h.run pins s σ H D I) (h'.run pins s σ H D I)⟩
theorem PE.or {e : Expr} {t t' : TE} (h : PE X e t) (h' : PE X e t') : PE X e fun σ H Q => t σ H Q ∨ t' σ H Q := ⟨fun pins s σ H Q I q => q.elim (h.run pins s σ H Q I) (h'.run pins s σ H Q I)⟩
def mForget (vs : List Nat) : MS := fun s h => .nx (wipeA s vs) h
theorem SR.forget {ρ : List Addr} {F : Hp} {s : Sl} {σ : L2.St} (x : SR B ρ F s σ) : ∀ vs : List Nat, SR B ρ F (wipeA s vs) σ
  | [] => x
  | v :: vs => by
    obtain ⟨h1, h2⟩ := SR.forget x vs
    refine ⟨by rw [wipeA, List.length_set]; exact h1, fun i a e => ?_⟩
    rw [wipeA] at e
    by_cases hi : v = i
    · subst hi
      by_cases hl : v < (wipeA s vs).length
      · rw [List.getElem?_set_self hl] at e
        cases e
      · rw [List.getElem?_eq_none_iff.mpr (by rw [List.length_set]; omega)] at e
        cases e
    · rw [List.getElem?_set_ne hi] at e
      exact h2 i a e
theorem sss_forget {sts : List Stmt} {m : MS} (vs : List Nat) (h : SSs B X W sts m) : SSs B X W sts (mSeq (mForget vs) m) :=
  PSs.imp h fun D σ H ⟨ρ, F, h, s, sr, hr, p⟩ => ⟨ρ, F, h, wipeA s vs, sr.forget vs, hr, p⟩
def tFrz (t : TE) : TE := fun σ H Q => t σ H fun v H' => ∃ p u, v = .ref p ∧ H' p = some u ∧ Mut (some u) ∧ ∀ od, Q v (upd H' p (.frz od u))
theorem pe_frz {e : Expr} {t : TE} (h : PE X e t) : PE X e (tFrz t) := by
  refine ⟨fun pins s σ H Q I hw => ?_⟩
  refine thn (h.run pins s σ H _ I hw) fun v s1 ⟨x, H1, I1, r, p, u, ex, hp, mu, q⟩ => ?_
  obtain ⟨od, I2⟩ := I1.lock hp mu
  exact ⟨x, _, I2, r, q od⟩
end
end NC
end S3
end
section
set_option Elab.async false
set_option linter.all false
set_option maxRecDepth 100000
set_option maxHeartbeats 4000000
namespace S3
open PySem PySem.Spec PyProof.Rows L2
noncomputable section NC
section
mutual
def LV (n : Nat) : AV → Prop
  | .non => True
  | .bl _ => True
  | .int _ => True
  | .str _ => True
  | .tup xs => LVs n xs
  | .lst xs => LVs n xs
  | .rdl xs => LVs n xs
  | .rdt xs => LVs n xs
  | .dK kvs => LKs n kvs
  | .dT kvs => LTs n kvs
  | .ins _ fs => LFs n fs
  | .ref m => m < n
def LVs (n : Nat) : List AV → Prop
  | [] => True
  | a :: r => LV n a ∧ LVs n r
def LKs (n : Nat) : List (Key × AV) → Prop
  | [] => True
  | (_, a) :: r => LV n a ∧ LKs n r
def LTs (n : Nat) : List (List Key × AV) → Prop
  | [] => True
  | (_, a) :: r => LV n a ∧ LTs n r
def LFs (n : Nat) : List (Str × AV) → Prop
  | [] => True
  | (_, a) :: r => LV n a ∧ LFs n r
end
def LO (n : Nat) : AO → Prop
  | .lst xs => LVs n xs
  | .dK kvs => LKs n kvs
  | .dT kvs => LTs n kvs
  | .ins _ fs => LFs n fs
  | .lck o => LO n o
/-- nothing tells a number that is not there -/
def Closed (h : AH) : Prop := ∀ (i : Nat) (o : AO), h[i]? = some o → LO h.length o
mutual
theorem LV.mono {n m : Nat} (h : n ≤ m) : ∀ (a : AV), LV n a → LV m a
  | .non, l => l
  | .bl _, l => l
  | .int _, l => l
  | .str _, l => l
  | .tup xs, l => LVs.mono h xs l
  | .lst xs, l => LVs.mono h xs l
  | .rdl xs, l => LVs.mono h xs l
  | .rdt xs, l => LVs.mono h xs l
  | .dK kvs, l => LKs.mono h kvs l
  | .dT kvs, l => LTs.mono h kvs l
  | .ins _ fs, l => LFs.mono h fs l
  | .ref _, l => Nat.lt_of_lt_of_le l h
theorem LVs.mono {n m : Nat} (h : n ≤ m) : ∀ (a : List AV), LVs n a → LVs m a
  | [], l => l
  | a :: r, l => ⟨LV.mono h a l.1, LVs.mono h r l.2⟩
theorem LKs.mono {n m : Nat} (h : n ≤ m) : ∀ (a : List (Key × AV)), LKs n a → LKs m a
  | [], l => l
  | (_, a) :: r, l => ⟨LV.mono h a l.1, LKs.mono h r l.2⟩
theorem LTs.mono {n m : Nat} (h : n ≤ m) : ∀ (a : List (List Key × AV)), LTs n a → LTs m a
  | [], l => l
  | (_, a) :: r, l => ⟨LV.mono h a l.1, LTs.mono h r l.2⟩
theorem LFs.mono {n m : Nat} (h : n ≤ m) : ∀ (a : List (Str × AV)), LFs n a → LFs m a
  | [], l => l
  | (_, a) :: r, l => ⟨LV.mono h a l.1, LFs.mono h r l.2⟩
end
theorem LO.mono {n m : Nat} (h : n ≤ m) : ∀ (a : AO), LO n a → LO m a
  | .lst xs, l => LVs.mono h xs l
  | .dK kvs, l => LKs.mono h kvs l
  | .dT kvs, l => LTs.mono h kvs l
  | .ins _ fs, l => LFs.mono h fs l
  | .lck o, l => LO.mono h o l
end
section
variable {B : Bx} {ρ ρ' : List Addr} {F : Hp} {n : Nat}
mutual
theorem RV.lt : ∀ (a : AV) (v : V), RV B ρ F a v → LV ρ.length a
  | .non, v, h => trivial
  | .bl b, v, h => trivial
  | .int i, v, h => trivial
  | .str x, v, h => trivial
  | .tup xs, v, h => by
    obtain ⟨p, vs, e, q, r⟩ := h
    exact RVs.lt xs vs r
  | .rdt xs, v, h => by
    obtain ⟨p, vs, e, q, r⟩ := h
    exact RVs.lt xs vs r
  | .lst xs, v, h => by
    obtain ⟨p, vs, e, q, r⟩ := h
    exact RVs.lt xs vs r
  | .rdl xs, v, h => by
    obtain ⟨p, vs, e, q, r⟩ := h
    exact RVs.lt xs vs r
  | .dK kvs, v, h => by
    obtain ⟨p, o, vs, e, q, r⟩ := h
    exact RKs.lt kvs vs r
  | .dT kvs, v, h => by
    obtain ⟨p, o, vs, e, q, r⟩ := h
    exact RTs.lt kvs vs r
  | .ins c fs, v, h => by
    obtain ⟨p, C, dx, vs, e, m, q, r⟩ := h
    exact RFs.lt fs vs r
  | .ref n, v, h => by
    obtain ⟨p, q, e⟩ := h
    exact ix_lt q
theorem RVs.lt : ∀ (a : List AV) (v : List V), RVs B ρ F a v → LVs ρ.length a
  | [], v, h => trivial
  | a :: r, v, h => by
    obtain ⟨x, w, e, h1, h2⟩ := h
    exact ⟨RV.lt a x h1, RVs.lt r w h2⟩
theorem RKs.lt : ∀ (a : List (Key × AV)) (v : List (Key × V)), RKs B ρ F a v → LKs ρ.length a
  | [], v, h => trivial
  | (k, a) :: r, v, h => by
    obtain ⟨x, w, e, h1, h2⟩ := h
    exact ⟨RV.lt a x h1, RKs.lt r w h2⟩
theorem RTs.lt : ∀ (a : List (List Key × AV)) (v : List (List Key × V)), RTs B ρ F a v → LTs ρ.length a
  | [], v, h => trivial
  | (k, a) :: r, v, h => by
    obtain ⟨x, w, e, h1, h2⟩ := h
    exact ⟨RV.lt a x h1, RTs.lt r w h2⟩
theorem RFs.lt : ∀ (a : List (Str × AV)) (v : List (Str × V)), RFs B ρ F a v → LFs ρ.length a
  | [], v, h => trivial
  | (k, a) :: r, v, h => by
    obtain ⟨x, w, e, h1, h2⟩ := h
    exact ⟨RV.lt a x h1, RFs.lt r w h2⟩
end
theorem HR.closed {h : AH} {H : Hp} (x : HR B ρ F h H) : Closed h := fun i o e => by
  have hl : i < ρ.length := by rw [x.len]; exact ix_lt e
  have r := x.obj i _ o (List.getElem?_eq_getElem hl) e
  rw [← x.len]
  have aux : ∀ (o : AO) (u : HO), OU B ρ F o u → LO ρ.length o := fun o u r => by
    cases o with
    | lst xs => obtain ⟨vs, _, rs⟩ := r; exact RVs.lt _ _ rs
    | dK xs => obtain ⟨vs, _, rs⟩ := r; exact RKs.lt _ _ rs
    | dT xs => obtain ⟨vs, _, rs⟩ := r; exact RTs.lt _ _ rs
    | ins c fs => obtain ⟨C, dx, vs, _, _, rs⟩ := r; exact RFs.lt _ _ rs
    | lck o => exact r.elim
  cases o with
  | lck o =>
    cases o with
    | lck o => obtain ⟨ob, u, _, _, g, _⟩ := r; subst g; exact trivial
    | _ => obtain ⟨ob, u, _, r⟩ := r; have z := aux _ u r; exact z
  | lst xs => obtain ⟨u, _, r⟩ := r; exact aux _ u r
  | dK xs => obtain ⟨u, _, r⟩ := r; exact aux _ u r
  | dT xs => obtain ⟨u, _, r⟩ := r; exact aux _ u r
  | ins c fs => obtain ⟨u, _, r⟩ := r; exact aux _ u r
mutual
theorem RV.trim : ∀ (a : AV) (v : V), LV n a → RV B ρ F a v → RV B (ρ.take n) F a v
  | .non, v, _, h => h
  | .bl b, v, _, h => h
  | .int i, v, _, h => h
  | .str x, v, _, h => h
  | .tup xs, v, l, h => by
    obtain ⟨p, vs, e, q, r⟩ := h
    exact ⟨p, vs, e, q, RVs.trim xs vs l r⟩
  | .rdt xs, v, l, h => by
    obtain ⟨p, vs, e, q, r⟩ := h
    exact ⟨p, vs, e, q, RVs.trim xs vs l r⟩
  | .lst xs, v, l, h => by
    obtain ⟨p, vs, e, q, r⟩ := h
    exact ⟨p, vs, e, q, RVs.trim xs vs l r⟩
  | .rdl xs, v, l, h => by
    obtain ⟨p, vs, e, q, r⟩ := h
    exact ⟨p, vs, e, q, RVs.trim xs vs l r⟩
  | .dK kvs, v, l, h => by
    obtain ⟨p, o, vs, e, q, r⟩ := h
    exact ⟨p, o, vs, e, q, RKs.trim kvs vs l r⟩
  | .dT kvs, v, l, h => by
    obtain ⟨p, o, vs, e, q, r⟩ := h
    exact ⟨p, o, vs, e, q, RTs.trim kvs vs l r⟩
  | .ins c fs, v, l, h => by
    obtain ⟨p, C, dx, vs, e, m, q, r⟩ := h
    exact ⟨p, C, dx, vs, e, m, q, RFs.trim fs vs l r⟩
  | .ref m, v, l, h => by
    obtain ⟨p, q, e⟩ := h
    have l : m < n := l
    exact ⟨p, by rw [List.getElem?_take]; rw [if_pos l]; exact q, e⟩
theorem RVs.trim : ∀ (a : List AV) (v : List V), LVs n a → RVs B ρ F a v → RVs B (ρ.take n) F a v
  | [], v, _, h => h
  | a :: r, v, l, h => by
    obtain ⟨x, w, e, h1, h2⟩ := h
    exact ⟨x, w, e, RV.trim a x l.1 h1, RVs.trim r w l.2 h2⟩
theorem RKs.trim : ∀ (a : List (Key × AV)) (v : List (Key × V)), LKs n a → RKs B ρ F a v → RKs B (ρ.take n) F a v
  | [], v, _, h => h
  | (k, a) :: r, v, l, h => by
    obtain ⟨x, w, e, h1, h2⟩ := h
    exact ⟨x, w, e, RV.trim a x l.1 h1, RKs.trim r w l.2 h2⟩
theorem RTs.trim : ∀ (a : List (List Key × AV)) (v : List (List Key × V)), LTs n a → RTs B ρ F a v → RTs B (ρ.take n) F a v
  | [], v, _, h => h
  | (k, a) :: r, v, l, h => by
    obtain ⟨x, w, e, h1, h2⟩ := h
    exact ⟨x, w, e, RV.trim a x l.1 h1, RTs.trim r w l.2 h2⟩
theorem RFs.trim : ∀ (a : List (Str × AV)) (v : List (Str × V)), LFs n a → RFs B ρ F a v → RFs B (ρ.take n) F a v
  | [], v, _, h => h
  | (k, a) :: r, v, l, h => by
    obtain ⟨x, w, e, h1, h2⟩ := h
    exact ⟨x, w, e, RV.trim a x l.1 h1, RFs.trim r w l.2 h2⟩
end
theorem OU.trim {o : AO} {u : HO} (l : LO n o) (x : OU B ρ F o u) : OU B (ρ.take n) F o u := by
  cases o with
  | lst xs => obtain ⟨vs, e, r⟩ := x; exact ⟨vs, e, RVs.trim _ _ l r⟩
  | dK xs => obtain ⟨vs, e, r⟩ := x; exact ⟨vs, e, RKs.trim _ _ l r⟩
  | dT xs => obtain ⟨vs, e, r⟩ := x; exact ⟨vs, e, RTs.trim _ _ l r⟩
  | ins c fs => obtain ⟨C, dx, ws, e, m, r⟩ := x; exact ⟨C, dx, ws, e, m, RFs.trim _ _ l r⟩
  | lck o => exact x
theorem OR.trim {o : AO} {H : Hp} {p : Addr} (l : LO n o) (x : OR B ρ F H p o) : OR B (ρ.take n) F H p o := by
  cases o with
  | lck o =>
    cases o with
    | lck o => obtain ⟨ob, u, f, e⟩ := x; exact ⟨ob, u, f, e⟩
    | _ => obtain ⟨ob, u, e, r⟩ := x; exact ⟨ob, u, e, r.trim l⟩
  | lst xs => obtain ⟨u, e, r⟩ := x; exact ⟨u, e, r.trim l⟩
  | dK xs => obtain ⟨u, e, r⟩ := x; exact ⟨u, e, r.trim l⟩
  | dT xs => obtain ⟨u, e, r⟩ := x; exact ⟨u, e, r.trim l⟩
  | ins c fs => obtain ⟨u, e, r⟩ := x; exact ⟨u, e, r.trim l⟩
theorem HR.trim {h g : AH} {H : Hp} (x : HR B ρ F (h ++ g) H) (c : Closed h) : HR B (ρ.take h.length) F h H := by
  have hl : h.length ≤ ρ.length := by rw [x.len, List.length_append]; omega
  refine ⟨x.sub, by rw [List.length_take]; omega, x.nd.sublist (List.take_sublist _ _), fun i p m g => by
    have hm := ix_lt m
    rw [List.length_take] at hm
    rw [List.getElem?_take, if_pos (by omega)] at m
    exact x.sep i p m fun o z => g o (by rw [List.getElem?_append_left (by omega)] at z; exact z), fun i p o e1 e2 => ?_, x.tab, x.ntb⟩
  have hi : i < h.length := ix_lt e2
  rw [List.getElem?_take, if_pos hi] at e1
  exact (x.obj i p o e1 (by rw [List.getElem?_append_left hi]; exact e2)).trim (c i o e2)
theorem Ext.trim {F' H H' : Hp} (x : Ext ρ F H ρ' F' H') (hn : ρ.length ≤ n) : Ext ρ F H (ρ'.take n) F' H' :=
  ⟨fun i p e => by rw [List.getElem?_take, if_pos (Nat.lt_of_lt_of_le (ix_lt e) hn)]; exact x.pre i p e, x.fz, x.keep, x.fnew, fun p u e nt m z => x.rnew p u e nt m (List.mem_of_mem_take z), x.lk, x.fnl⟩
theorem ER.trim {c : Str} {fs : List (Str × AV)} {cls : Value} {d : Option Addr} {H : Hp} (l : LFs n fs) (x : ER B ρ F c fs cls d H) : ER B (ρ.take n) F c fs cls d H := by
  obtain ⟨C, e1, e2, e3⟩ := x
  refine ⟨C, e1, e2, e3.imp id fun ⟨dx, ws, q1, q2, q3⟩ => ⟨dx, ws, q1, q2, RFs.trim _ _ l q3⟩⟩
end
/-- what a def tells behind, the rubbish forgotten -/
def Ref1 (n : Nat) (r r' : Rs AV) : Prop := match r' with
  | .stk => True
  | .ok a h1 => r = .ok a h1 ∨ ∃ g, r = .ok a (h1 ++ g) ∧ n ≤ h1.length ∧ LV h1.length a ∧ Closed h1
  | .exc c fs h1 => r = .exc c fs h1 ∨ ∃ g, r = .exc c fs (h1 ++ g) ∧ n ≤ h1.length ∧ LFs h1.length fs ∧ Closed h1
theorem Ref1.post {B : Bx} {ρ : List Addr} {F H : Hp} {r r' : Rs AV} {n : Nat} {Q : VK} {E : WK} (x : Ref1 n r r') (hn : n = ρ.length) (p : Post B (RV B) ρ F H r' Q E) : Post B (RV B) ρ F H r Q E := by
  subst hn
  cases r' with
  | stk => exact p.elim
  | ok a h1 =>
    rcases x with rfl | ⟨g, rfl, hl, la, cl⟩
    · exact p
    · intro ρ' F' H' v e hr rv
      exact p _ F' H' v (e.trim hl) (hr.trim cl) (RV.trim _ _ la rv)
  | exc c fs h1 =>
    rcases x with rfl | ⟨g, rfl, hl, la, cl⟩
    · exact p
    · intro ρ' F' H' cls d e hr rv
      exact p _ F' H' cls d (e.trim hl) (hr.trim cl) (rv.trim la)
/-- the def at f does what g says -/
abbrev FnP (B : Bx) (P : Program) (w : World) (base : Heap) (k : Nat) (f : Addr) (fd : FuncData) (ps : List Str) (g : Fn) : Prop := FnOk P w B.K B.mg base (L2.CX P w) k f fd ps (spF B g)
section
variable {B : Bx} {P : Program} {w : World} {base : Heap} {k : Nat} {f C : Addr} {fd : FuncData} {ps : List Str} {g g' : Fn}
theorem FnP.refine (Fo : FnP B P w base k f fd ps g) (h : ∀ as h, Closed h → LVs h.length as → Ref1 h.length (g as h) (g' as h)) : FnP B P w base k f fd ps g' :=
  Fo.imp fun vs H Q E ⟨ρ, F, h1, as, hr, ra, p⟩ => ⟨ρ, F, h1, as, hr, ra, (h as h1 hr.closed (by rw [← hr.len]; exact RVs.lt _ _ ra)).post hr.len.symm p⟩
def Ss.fin (r : Ss) : Rs AV := match r with
  | .nx _ h => .ok .non h
  | .rt a h => .ok a h
  | .exc _ c fs h => .exc c fs h
  | _ => .stk
def defSem (n k : Nat) (m : MS) : Fn := fun as h => if as.length = k then (m (as.map some ++ List.replicate (n - k) none) h).fin else .stk
theorem start_at {ρ : List Addr} {F : Hp} {as : List AV} {vs : List V} {N : List Str} {n : Nat} (r : RVs B ρ F as vs) (hn : N.length - as.length = n) : SR B ρ F (as.map some ++ List.replicate n none) (L2.start N vs) := by
  have hl := RVs.length r
  refine ⟨by rw [L2.start, List.length_append, List.length_append, List.length_map, List.length_map, List.length_replicate, List.length_replicate, hl]; omega, fun i a e => ?_⟩
  rw [L2.start]
  by_cases hi : i < as.length
  · rw [List.getElem?_append_left (by rw [List.length_map]; exact hi), List.getElem?_map] at e
    cases k1 : as[i]? with
    | none => rw [k1] at e; cases e
    | some b =>
      rw [k1] at e
      cases e
      obtain ⟨v, ev, rv⟩ := r.nth k1
      exact ⟨v, by rw [List.getElem?_append_left (by rw [List.length_map]; omega), List.getElem?_map, ev]; rfl, rv⟩
  · rw [List.getElem?_append_right (by rw [List.length_map]; omega), List.getElem?_replicate] at e
    split at e <;> cases e
theorem fin_post {ρ : List Addr} {F H : Hp} {r : Ss} {Q : VK} {E : XK} (p : Post B (RV B) ρ F H r.fin Q E) : PostS B ρ F H r { nx := fun _ H' => Q .non H', rt := Q } (fun cls d _ H => E cls d H) := by
  cases r with
  | nx s h => exact fun ρ' F' H' σ' x y z => p ρ' F' H' .non x y rfl
  | rt a h => exact p
  | exc s c fs h => exact fun ρ' F' H' σ' cls d x y _ z => p ρ' F' H' cls d x y z
  | bk s h => exact p.elim
  | ct s h => exact p.elim
  | stk => exact p.elim
abbrev bodyCx (B : Bx) (P : Program) (w : World) (base : Heap) (N : List Str) (qual : Str) (st : Stmt) (f : Addr) (cdv : Value) (A : Around) (outer : List Env) (s : Shared) (H : Hp) (E : XK) : Cx := cxOf (L2.CX P w) P w B.K B.mg base N qual (defScope st) f cdv A outer s H E
/-- a body lets out what it likes -/
theorem takesB {N : List Str} {qual : Str} {st : Stmt} {cdv : Value} {A : Around} {outer : List Env} {s : Shared} {H : Hp} {E : XK} : Takes (bodyCx B P w base N qual st f cdv A outer s H E) (fun cls d _ H => E cls d H) := takes_of rfl rfl rfl rfl
theorem passB {N : List Str} {qual : Str} {st : Stmt} {cdv : Value} {A : Around} {outer : List Env} {s : Shared} {H : Hp} {E : XK} : PassesOwn (model P w) (bodyCx B P w base N qual st f cdv A outer s H E).A (bodyCx B P w base N qual st f cdv A outer s H E).env (bodyCx B P w base N qual st f cdv A outer s H E).xe := passes_of rfl
end
end NC
end S3
end
section
set_option Elab.async false
set_option linter.all false
set_option maxRecDepth 100000
set_option maxHeartbeats 4000000
namespace S3
open PySem PySem.Spec PyProof.Rows L2
noncomputable section NC
/-- the clauses: except e: return ret -/
inductive HTold (X : Cx) (sg : Scope) : List ExceptHandler → List (Value × Str) → Prop
  | nil : HTold X sg [] []
  | cons {e ret : Str} {CS : Value} {j : Nat} {p4 p5 p6 p7 : Pos} {hds : List ExceptHandler} {l : List (Value × Str)} (hge : sg.names.lookup e = some .globalImplicit) (hme : X.mg e = some CS) (hde : (e == ("__debug__" : Str)) = false) (r : HTold X sg hds l) :
      HTold X sg (.ExceptHandler (some (.Name e p4)) none [.Return (some (.Constant (.str ret) j p5)) p6] p7 :: hds) ((CS, ret) :: l)
def mTold (cl : List (Str × Str)) (m : ME) : ME := fun s h => match m s h with
  | .ok a h1 => .ok a h1
  | .exc c _ h1 => match cl.lookup c with
    | some r => .ok (.str r) h1
    | none => .stk
  | .stk => .stk
section
variable {B : Bx} {X : Cx} {W : WX}
theorem mem_of_lookup {cl : List (Str × Str)} {c r : Str} (e : cl.lookup c = some r) : c ∈ cl.map (·.1) := by
  induction cl with
  | nil => cases e
  | cons p t ih =>
    obtain ⟨a, b⟩ := p
    rw [List.lookup_cons] at e
    by_cases h : c = a
    · subst h; exact List.mem_cons_self
    · rw [beq_false_of_ne h] at e
      exact List.mem_cons_of_mem _ (ih e)
theorem HR.tabbed {ρ : List Addr} {F H H1 : Hp} {h : AH} (x : HR B ρ F h H) (e : LamX.ExtN H H1) (t : LamX.Tabs B.T H1) : HR B ρ F h H1 ∧ Ext ρ F H ρ F H1 := by
  have nob : ∀ p u, F p = some u → H1 p = some u := fun p u q => e p u (x.sub p u q) fun ps z => x.ntb p ps (by rw [q, z])
  refine ⟨⟨nob, x.len, x.nd, x.sep, fun i p o e1 e2 => ?_, t, x.ntb⟩, ⟨fun _ _ e => e, fun _ _ e => e, fun p u q _ nt => e p u q nt, fun _ _ _ _ _ _ f => f, fun _ _ _ _ m => m, fun p o u q => e p _ q fun _ z => (by cases z), fun _ _ _ _ f => f⟩⟩
  have r := x.obj i p o e1 e2
  cases o with
  | lck o =>
    cases o with
    | lck o => obtain ⟨ob, u, f, eu, g, g1⟩ := r; exact ⟨ob, u, f, e _ _ eu (by rcases g1 with ⟨_, _, rfl⟩ | ⟨_, _, _, rfl⟩ <;> exact fun _ z => by cases z), g, g1⟩
    | _ => obtain ⟨ob, u, eu, ou⟩ := r; exact ⟨ob, u, e _ _ eu (fun _ z => by cases z), ou⟩
  | lst xs => obtain ⟨u, eu, ou⟩ := r; exact ⟨u, e _ _ eu ou.kind.1, ou⟩
  | dK xs => obtain ⟨u, eu, ou⟩ := r; exact ⟨u, e _ _ eu ou.kind.1, ou⟩
  | dT xs => obtain ⟨u, eu, ou⟩ := r; exact ⟨u, e _ _ eu ou.kind.1, ou⟩
  | ins c fs => obtain ⟨u, eu, ou⟩ := r; exact ⟨u, e _ _ eu ou.kind.1, ou⟩
/-- the __init__ g makes the fields that gi tells -/
def InitOk (c : Str) (g : Fn) (gi : List AV → AH → Rs (List (Str × AV))) : Prop := ∀ as h, Closed h → LVs h.length as → match gi as h with
  | .stk => True
  | .ok fs h1 => ∃ r, g (.ref h.length :: as) (h ++ [.ins c []]) = .ok .non (h1 ++ [.ins c fs] ++ r) ∧ h1.length = h.length ∧ LFs h.length fs ∧ Closed h1
  | .exc e fs h1 => ∃ r, g (.ref h.length :: as) (h ++ [.ins c []]) = .exc e fs (h1 ++ r) ∧ h.length ≤ h1.length ∧ LFs h1.length fs ∧ Closed h1
def mMakeF (c : Str) (gi : List AV → AH → Rs (List (Str × AV))) (ma : MA) : ME := fun s h => (ma s h).bind fun as h1 => (gi as h1).bind fun fs h2 => .ok (.ins c fs) h2
theorem makeF_imp {c : Str} {g : Fn} {gi : List AV → AH → Rs (List (Str × AV))} (hi : InitOk c g gi) {as : List AV} {h : AH} {ρ : List Addr} {F H : Hp} {Q : VK} {Wx : WK} (hr : HR B ρ F h H) (ra : LVs h.length as)
    (p : Post B (RV B) ρ F H ((gi as h).bind fun fs h2 => .ok (.ins c fs) h2) Q Wx) : Post B (RV B) ρ F H (match g (.ref h.length :: as) (h ++ [.ins c []]) with
      | .ok .non h2 => .ok (.ref h.length) h2
      | .ok _ _ => .stk
      | .exc c fs h2 => .exc c fs h2
      | .stk => .stk) Q Wx := by
  have k := hi as h hr.closed ra
  cases kg : gi as h with
  | stk => rw [kg] at p; exact p.elim
  | ok fs h1 =>
    rw [kg] at p k
    obtain ⟨r, eg, hl, lf, cl⟩ := k
    rw [eg]
    intro ρ' F' H' v ex hr' rv
    obtain ⟨q, eq, ev⟩ := rv
    subst ev
    have hn : h.length = ρ.length := hr.len.symm
    have cl2 : Closed (h1 ++ [AO.ins c fs]) := fun i o e => by
      rw [List.length_append, List.length_singleton, hl]
      have up : ∀ o, LO h.length o → LO (h.length + 1) o := fun o x => LO.mono (Nat.le_succ _) o x
      by_cases hi : i < h1.length
      · rw [List.getElem?_append_left hi] at e
        have := cl i o e
        rw [hl] at this
        exact up o this
      · rw [List.getElem?_append_right (Nat.le_of_not_lt hi)] at e
        cases k3 : i - h1.length with
        | zero =>
          rw [k3] at e
          cases e
          exact LFs.mono (Nat.le_succ _) _ lf
        | succ j => rw [k3] at e; cases e
    have hr2 : HR B (ρ'.take (h1 ++ [AO.ins c fs]).length) F' (h1 ++ [AO.ins c fs]) H' := hr'.trim cl2
    have hlen : (h1 ++ [AO.ins c fs]).length = h.length + 1 := by rw [List.length_append, List.length_singleton, hl]
    have eq2 : (ρ'.take (h1 ++ [AO.ins c fs]).length)[h.length]? = some q := by
      rw [List.getElem?_take, hlen, if_pos (Nat.lt_succ_self _)]
      exact eq
    obtain ⟨u, eu, C, dx, ws, e1, hm, rs⟩ := hr2.obj h.length q (.ins c fs) eq2 (by rw [← hl]; exact getElem?_snoc _ _)
    subst e1
    have hr3 : HR B (ρ'.take h.length) F' h1 H' := by
      have z := hr2.trim (h := h1) (g := [AO.ins c fs]) cl
      rw [List.take_take] at z
      rw [hl, hlen, Nat.min_eq_left (Nat.le_succ _)] at z
      exact z
    have hqm : q ∈ ρ' := List.mem_of_getElem? eq
    have fq : F' q = none := hr2.sep h.length q eq2 fun o z => by
      rw [← hl, getElem?_snoc] at z
      cases z
    have nq : q ∉ ρ'.take h.length := fun z => by
      obtain ⟨i, hi⟩ := List.getElem?_of_mem z
      have hil : i < h.length := by
        have := ix_lt hi
        rw [List.length_take] at this
        omega
      rw [List.getElem?_take, if_pos hil] at hi
      have := nd_ix hr'.nd hi eq
      omega
    have Hq : ∀ w, H q = some w → (∀ ps, w ≠ .tbl ps) → False := fun w kH nt => by
      have nr : q ∉ ρ := fun z => by
        obtain ⟨i, hi⟩ := List.getElem?_of_mem z
        have hil := ix_lt hi
        have := nd_ix hr'.nd (ex.pre _ _ hi) eq
        omega
      exact ex.rnew q w kH nt nr hqm
    have ex3 : Ext ρ F H (ρ'.take h.length) F' H' := ex.trim (by omega)
    refine p _ _ H' _ (ex3.intoFt fq Hq) (hr3.intoF nq fq eu) ⟨q, C, dx, ws, rfl, hm, upd_same, ?_⟩
    refine RFs.mono (fun _ _ e => e) (upd_old fq) _ _ ?_
    have z := RFs.trim (n := h.length) fs ws lf rs
    rw [List.take_take, hlen, Nat.min_eq_left (Nat.le_succ _)] at z
    exact z
  | exc e fs h1 =>
    rw [kg] at p k
    obtain ⟨r, eg, hl, lf, cl⟩ := k
    rw [eg]
    intro ρ' F' H' cls d ex hr' er
    exact p _ F' H' cls d (ex.trim (by rw [hr.len]; exact hl)) (hr'.trim cl) (er.trim lf)
end
end NC
end S3
end
section
set_option Elab.async false
set_option linter.all false
set_option maxRecDepth 100000
set_option maxHeartbeats 4000000
namespace S3
open PySem PySem.Spec PyProof.Rows L2
noncomputable section NC
section
variable {B : Bx} {X : Cx} {W : WX}
section
variable {k : Nat} {f C : Addr} {fd : FuncData} {ps : List Str} {g : Fn} {x m c : Str} {p pos apos : Pos} {e o : Expr} {es : List Expr} {ma : MA} {mo : ME} {gi : List AV → AH → Rs (List (Str × AV))}
theorem se_makeF (hi : InitOk c g gi) (M : Mk X.K C f) (hC : B.mg c = some (.ref C)) (Fo : FnS B X k f fd ps g) (hr : Room (k + 1) X.A) (hg : Gl X c) (hm : X.mg c = some (.ref C)) (hb : Binds X.K fd ps []) (tk : Takes X W)
    (ha : SA B X W (e :: es) ma) (hdb : (c == ("__debug__" : Str)) = false := by decide) (he : starEach (e :: es) X.env = (false, eval e X.env) :: starEach es X.env := by rfl) (hpl : (backTo pos (starEach es X.env)).any (·.1) = false := by rfl) :
    SE B X W (.Call (.Name c p) (e :: es) [] pos) (mMakeF c gi ma) := by
  refine ⟨fun pins s σ H Q I h => ?_⟩
  obtain ⟨ρ, F, h0, s0, sr, hr0, p⟩ := h
  have run := ha.run pos pins s σ H (fun vs H1 => ∀ x dx, H1 x = none → H1 dx = none → dx ≠ x → spF B g (.ref x :: vs) (upd (upd H1 dx (.own x)) x (.ins C dx [])) (fun v H2 => v = .non ∧ Q (.ref x) H2) (WE W σ)) I
    ⟨ρ, F, h0, s0, sr, hr0, p.andThen fun as h1 ρ1 F1 H1 vs _ e1 hr1 ra p1 => make_at hC hr1 ra (makeF_imp hi hr1 (by rw [← hr1.len]; exact RVs.lt _ _ ra) p1)⟩
  refine wpAny_Call_Name_kw (ld_glob I hg hm ?_ hdb)
  refine PySem.W.callWith_K (h₀ := X.base) I.ok.mod.kin M.kp (thn run fun us s1 ⟨vs, H1, I1, r, q⟩ => ⟨I1.kIn, ?_⟩) he hpl
  exact run_makeS (E := WE W) M Fo hr hb (passAt tk σ) I1 r q
end
mutual
def canon : AV → Bool
  | .non => true
  | .bl _ => true
  | .int _ => true
  | .str _ => true
  | .tup xs => canons xs
  | .lst xs => canons xs
  | _ => false
def canons : List AV → Bool
  | [] => true
  | a :: r => canon a && canons r
end
mutual
def unpy : PyData → AV
  | .none => .non
  | .bool b => .bl b
  | .int i => .int i
  | .str x => .str x
  | .tuple xs => .tup (unpys xs)
  | .list xs => .lst (unpys xs)
  | _ => .non
def unpys : List PyData → List AV
  | [] => []
  | a :: r => unpy a :: unpys r
end
mutual
theorem unpy_py : ∀ a : AV, canon a = true → unpy (py a) = a
  | .non, _ => rfl
  | .bl _, _ => rfl
  | .int _, _ => rfl
  | .str _, _ => rfl
  | .tup xs, h => by
    show AV.tup (unpys (pys xs)) = _
    rw [unpys_pys xs h]
  | .lst xs, h => by
    show AV.lst (unpys (pys xs)) = _
    rw [unpys_pys xs h]
  | .rdl _, h => nomatch h
  | .rdt _, h => nomatch h
  | .dK _, h => nomatch h
  | .dT _, h => nomatch h
  | .ins _ _, h => nomatch h
  | .ref _, h => nomatch h
theorem unpys_pys : ∀ a : List AV, canons a = true → unpys (pys a) = a
  | [], _ => rfl
  | a :: r, h => by
    have h : (canon a && canons r) = true := h
    rw [Bool.and_eq_true] at h
    show unpy (py a) :: unpys (pys r) = _
    rw [unpy_py a h.1, unpys_pys r h.2]
end
theorem canons_at : ∀ {xs : List AV} {i : Nat} {a : AV}, canons xs = true → xs[i]? = some a → canon a = true
  | b :: r, 0, a, c, h => by
    cases h
    have c : (canon b && canons r) = true := c
    rw [Bool.and_eq_true] at c
    exact c.1
  | b :: r, i + 1, a, c, h => by
    have c : (canon b && canons r) = true := c
    rw [Bool.and_eq_true] at c
    exact canons_at c.2 h
def gLen : GL := fun as h => match as with
  | [.str x] => if x.length ≤ sizeLine then some (.int (x.length : Nat)) else none
  | [a] => match vSq h a with
    | some xs => some (.int (xs.length : Nat))
    | none => none
  | _ => none
theorem cr_gLen (hK : X.K = B.K := by rfl) : CallR X (.builtin "len") (rmL B gLen) := by
  intro pins s σ H xs us Q I r hh
  obtain ⟨ρ, F, h, as, c, hr, ra, ec, q⟩ := hh
  have seq : ∀ a ys, as = [a] → vSq h a = some ys → c = .int (ys.length : Nat) → wpAny (model X.prog X.w) X.A (call (.builtin "len") us) (EP X pins σ Q) X.xe s := fun a ys e1 e2 e3 => by
    subst e1
    obtain ⟨v, rfl, rv⟩ := ra.one
    obtain ⟨p, vs, ex, sq, rs⟩ := vSq_at hr rv e2
    subst ex
    refine call_len pins s σ H [.ref p] us Q I r ⟨_, vs.length, rfl, ?_, ?_⟩
    · rcases sq with sq | sq
      · exact .inl ⟨vs, by rw [hK]; exact sq, rfl⟩
      · exact .inr ⟨vs, by rw [hK]; exact sq, rfl⟩
    · rw [← RVs.length rs]
      exact q _ _ _ _ Ext.refl hr (by rw [e3]; exact rfl)
  unfold gLen at ec
  split at ec
  · rename_i y
    obtain ⟨v, rfl, rv⟩ := ra.one
    have rv : v = .str y := rv
    subst rv
    split at ec
    · cases ec
      exact call_len pins s σ H [.str y] us Q I r ⟨_, y.length, rfl, ⟨by assumption, rfl⟩, q _ _ _ _ Ext.refl hr rfl⟩
    · cases ec
  · rename_i a _
    split at ec
    · rename_i ys e2
      cases ec
      exact seq a ys rfl e2 rfl
    · cases ec
  · cases ec
def gInt : GL := fun as h => match as with
  | [.int i] => some (.int i)
  | [.bl b] => some (.int (if b then 1 else 0))
  | _ => none
theorem cr_gInt : CallR X (.type "int") (rmL B gInt) := by
  intro pins s σ H xs us Q I r hh
  obtain ⟨ρ, F, h, as, c, hr, ra, ec, q⟩ := hh
  unfold gInt at ec
  split at ec
  · rename_i i
    cases ec
    rw [ints1 ra] at r
    exact call_int1 pins s σ H _ us Q I r (.inl ⟨i, rfl, q _ _ _ _ Ext.refl hr rfl⟩)
  · rename_i b
    cases ec
    obtain ⟨v, rfl, rv⟩ := ra.one
    have rv : v = .bl b := rv
    subst rv
    exact call_int1 pins s σ H _ us Q I r (.inr ⟨b, rfl, q _ _ _ _ Ext.refl hr rfl⟩)
  · cases ec
def gAbs : GL := fun as h => match as with
  | [.int i] => some (.int (if i < 0 then -i else i))
  | _ => none
theorem cr_gAbs : CallR X (.builtin "abs") (rmL B gAbs) := by
  intro pins s σ H xs us Q I r hh
  obtain ⟨ρ, F, h, as, c, hr, ra, ec, q⟩ := hh
  unfold gAbs at ec
  split at ec
  · rename_i i
    cases ec
    rw [ints1 ra] at r
    exact call_abs pins s σ H _ us Q I r ⟨i, rfl, q _ _ _ _ Ext.refl hr rfl⟩
  · cases ec
def intsOf : List AV → Option (List Int)
  | [] => some []
  | .int i :: r => (intsOf r).map (i :: ·)
  | _ => none
theorem intsOf_at {ρ : List Addr} {F : Hp} : ∀ {xs : List AV} {vs : List V} {ns : List Int}, RVs B ρ F xs vs → intsOf xs = some ns → vs = ns.map V.int
  | [], vs, ns, r, e => by
    cases e
    exact r
  | a :: t, vs, ns, r, e => by
    obtain ⟨v, w, rfl, r1, r2⟩ := r
    cases a with
    | int i =>
      have e : (intsOf t).map (i :: ·) = some ns := e
      cases k : intsOf t with
      | none => rw [k] at e; cases e
      | some ms =>
        rw [k] at e
        cases e
        have r1 : v = .int i := r1
        rw [r1, intsOf_at r2 k, List.map_cons]
    | _ => cases e
def gSum : GL := fun as h => match as with
  | [a] => match vSq h a with
    | some xs => (intsOf xs).map fun ns => .int ns.sum
    | none => none
  | _ => none
def gList : GL := fun as h => match as with
  | [a] => match vSq h a with
    | some xs => some (.lst xs)
    | none => none
  | _ => none
def gTuple : GL := fun as h => match as with
  | [a] => match vT a with
    | some _ => some a
    | none => match vLR h a with
      | some xs => some (.tup xs)
      | none => none
  | _ => none
theorem cr_gTuple (hK : X.K = B.K := by rfl) : CallR X (.type "tuple") (rmL B gTuple) := by
  intro pins s σ H xs us Q I r hh
  obtain ⟨ρ, F, h, as, c, hr, ra, ec, q⟩ := hh
  unfold gTuple at ec
  split at ec
  · rename_i a
    obtain ⟨v, rfl, rv⟩ := ra.one
    split at ec
    · rename_i ys e2
      cases ec
      obtain ⟨p, vs, ex, sq, rs⟩ := vT_at hr rv e2
      subst ex
      exact call_tuple_of pins s σ H _ us Q I r ⟨p, vs, rfl, .inr ⟨by rw [hK]; exact sq, q _ _ _ _ Ext.refl hr rv⟩⟩
    · split at ec
      · rename_i ys e2
        cases ec
        obtain ⟨p, vs, ex, sq, rs⟩ := vLR_at hr rv e2
        subst ex
        refine call_tuple_of pins s σ H _ us Q I r ⟨p, vs, rfl, .inl ⟨by rw [hK]; exact sq, fun l hl => ?_⟩⟩
        obtain ⟨hr', ex⟩ := hr.newF hl (.tup vs)
        exact q _ _ _ _ ex hr' ⟨l, vs, rfl, upd_same, rs.ext ex⟩
      · cases ec
  · cases ec
end
end NC
end S3
end
section
set_option Elab.async false
set_option linter.all false
set_option maxRecDepth 100000
set_option maxHeartbeats 4000000
namespace S3
open PySem PySem.Spec PyProof.Rows L2
noncomputable section NC
section
variable {B : Bx} {X : Cx}
theorem Vals.at : ∀ {xs : List V} {us : List Value} {i : Nat} {u : Value}, Vals xs us → us[i]? = some u → ∃ x, xs[i]? = some x ∧ RelV x u
  | [], _, i, u, r, e => by cases r; cases e
  | x :: xs, _, 0, u, r, e => by
    cases r with
    | cons h t => cases e; exact ⟨x, rfl, h⟩
  | x :: xs, _, i + 1, u, r, e => by
    cases r with
    | cons h t => exact Vals.at (i := i) t e
theorem RVs.at' {ρ : List Addr} {F : Hp} : ∀ {xs : List AV} {vs : List V} {i : Nat} {v : V}, RVs B ρ F xs vs → vs[i]? = some v → ∃ a, xs[i]? = some a ∧ RV B ρ F a v
  | [], vs, i, v, r, e => by
    have r : vs = [] := r
    subst r
    cases e
  | a :: t, vs, i, v, r, e => by
    obtain ⟨x, w, rfl, r1, r2⟩ := r
    cases i with
    | zero => cases e; exact ⟨a, rfl, r1⟩
    | succ i => exact RVs.at' (i := i) r2 e
theorem plain_at : ∀ {xs : List AV} {i : Nat} {a : AV}, PyData.plainAll (pys xs) = true → xs[i]? = some a → (py a).plain = true
  | b :: r, 0, a, c, h => by
    cases h
    have c : ((py b).plain && PyData.plainAll (pys r)) = true := c
    rw [Bool.and_eq_true] at c
    exact c.1
  | b :: r, i + 1, a, c, h => by
    have c : ((py b).plain && PyData.plainAll (pys r)) = true := c
    rw [Bool.and_eq_true] at c
    exact plain_at c.2 h
def likeAll (xs : List PyData) : Bool := xs.all fun x => (match x with | .none => false | _ => true) && xs.all fun y => PySem.W.alike x y
theorem likeAll_of {xs : List PyData} (h : likeAll xs = true) : PySem.W.AlikeAll xs := by
  unfold likeAll at h
  rw [List.all_eq_true] at h
  refine ⟨fun x hx y hy => ?_, fun x hx z => ?_⟩
  · have q := h x hx
    rw [Bool.and_eq_true] at q
    exact List.all_eq_true.mp q.2 y hy
  · have q := h x hx
    rw [Bool.and_eq_true] at q
    subst z
    cases q.1
/-- items that may be set in order -/
def okItems (xs : List AV) : Bool := canons xs && PyData.plainAll (pys xs) && likeAll (pys xs) && decide (PyData.depthAll (pys xs) ≤ 60)
theorem okItems_of {xs : List AV} (h : okItems xs = true) : canons xs = true ∧ PyData.plainAll (pys xs) = true ∧ PySem.W.AlikeAll (pys xs) ∧ PyData.depthAll (pys xs) ≤ 60 := by
  unfold okItems at h
  simp only [Bool.and_eq_true, decide_eq_true_eq] at h
  exact ⟨h.1.1.1, h.1.1.2, likeAll_of h.1.2, h.2⟩
/-- the item that was found, by its data -/
theorem found_at {pins : List (Addr × Obj)} {σ : L2.St} {s : Shared} {ρ : List Addr} {F H : Hp} {h : AH} {xs : List AV} {vs : List V} {its : List Value} {i : Nat} {v : Value} {h' : Heap} {tk : Nat} {d : PyData} {bs : List Addr} (hK : X.K = B.K) (I : Inv X pins σ H s) (hr : HR B ρ F h H) (rs : RVs B ρ F xs vs) (rv : Vals vs its)
    (ok : canons xs = true) (pl : PyData.plainAll (pys xs) = true) (e : its[i]? = some v) (k : ∀ b o, s.heap.get? b = some o → h'.get? b = some o) (r : Reads h' v d bs) : ∃ w, RelV w v ∧ RV B ρ F (unpy d) w ∧ Inv X pins σ H { s with heap := h', toks := tk } := by
  obtain ⟨w, ew, rw'⟩ := Vals.at rv e
  obtain ⟨a, ea, ra⟩ := rs.at' ew
  have pa := plain_at pl ea
  have I2 : Inv X pins σ H { s with heap := h', toks := tk } := I.kept k
  obtain ⟨as, r2⟩ := Dp.reads I2 (py a) w v (by rw [hK]; exact RV.dp hr a w ra pa) rw'
  have ed : py a = d := SeqAt.plain_unique (py a) d v as bs pa r2 r
  refine ⟨w, rw', ?_, I2⟩
  rw [← ed, unpy_py a (canons_at ok ea)]
  exact ra
def gBest (mx : Bool) (best : PyData → List PyData → PyData) : GL := fun as h => match as with
  | [.int i, .int j] => some (.int (if mx = true then (if j > i then j else i) else (if j < i then j else i)))
  | [a] => match vSq h a with
    | some (x :: xs) => if okItems (x :: xs) = true then some (unpy (best (py x) (pys xs))) else none
    | _ => none
  | _ => none
abbrev gMin : GL := gBest false PySem.W.minD
abbrev gMax : GL := gBest true PySem.W.maxD
theorem gBest_at {mx : Bool} {best : PyData → List PyData → PyData} {as : List AV} {h : AH} {c : AV} (e : gBest mx best as h = some c) : (∃ i j : Int, as = [.int i, .int j] ∧ c = .int (if mx = true then (if j > i then j else i) else (if j < i then j else i))) ∨ ∃ a x xs, as = [a] ∧ vSq h a = some (x :: xs) ∧ okItems (x :: xs) = true ∧ c = unpy (best (py x) (pys xs)) := by
  unfold gBest at e
  split at e
  · rename_i i j
    cases e
    exact .inl ⟨i, j, rfl, rfl⟩
  · rename_i a
    split at e
    · rename_i x xs e2
      split at e
      · cases e
        exact .inr ⟨a, x, xs, rfl, e2, by assumption, rfl⟩
      · cases e
    · cases e
  · cases e
theorem cr_gMin (hc : X.calm = true) (hu : X.A.units + 64 < cLine) (hK : X.K = B.K := by rfl) : CallR X (.builtin "min") (rmL B gMin) := by
  intro pins s σ H xs us Q I r hh
  obtain ⟨ρ, F, h, as, c, hr, ra, ec, q⟩ := hh
  rcases gBest_at ec with ⟨i, j, rfl, rfl⟩ | ⟨a, x, xs, rfl, e2, ok, rfl⟩
  · rw [ints2 ra] at r
    exact call_min2 hc pins s σ H _ us Q I r ⟨i, j, rfl, q _ _ _ _ Ext.refl hr rfl⟩
  · obtain ⟨v, rfl, rv⟩ := ra.one
    obtain ⟨o1, o2, o3, o4⟩ := okItems_of ok
    have o4 : PyData.depthAll (py x :: pys xs) ≤ 60 := o4
    obtain ⟨p, vs, ex, sq, rs⟩ := vSq_at hr rv e2
    subst ex
    rw [Vals.ref1 r]
    have dp := RVs.dp hr _ _ rs o2
    rcases sq with sq | sq
    · obtain ⟨its, rits, hl, _⟩ := I.list (by rw [hK]; exact sq)
      obtain ⟨as, hrd⟩ := Dp.readsAll I _ _ _ (by rw [hK]; exact dp) rits
      refine PySem.W.min_list_data (vs := its.toArray) (I.ok.hd hc) hl.isList hrd o3 (by omega) fun i v h' tk bs hv hb hk => ?_
      obtain ⟨w, g1, g2, g3⟩ := found_at hK I hr rs rits o1 o2 (by simpa using hv) hk hb
      exact ⟨w, H, g3, g1, q _ _ _ _ Ext.refl hr g2⟩
    · obtain ⟨its, rits, hl, _⟩ := I.tuple (by rw [hK]; exact sq)
      obtain ⟨as, hrd⟩ := Dp.readsAll I _ _ _ (by rw [hK]; exact dp) rits
      refine PySem.W.min_tuple_data (vs := its.toArray) (I.ok.hd hc) hl hrd o3 (by omega) fun i v h' tk bs hv hb hk => ?_
      obtain ⟨w, g1, g2, g3⟩ := found_at hK I hr rs rits o1 o2 (by simpa using hv) hk hb
      exact ⟨w, H, g3, g1, q _ _ _ _ Ext.refl hr g2⟩
theorem cr_gMax (hc : X.calm = true) (hu : X.A.units + 64 < cLine) (hK : X.K = B.K := by rfl) : CallR X (.builtin "max") (rmL B gMax) := by
  intro pins s σ H xs us Q I r hh
  obtain ⟨ρ, F, h, as, c, hr, ra, ec, q⟩ := hh
  rcases gBest_at ec with ⟨i, j, rfl, rfl⟩ | ⟨a, x, xs, rfl, e2, ok, rfl⟩
  · rw [ints2 ra] at r
    exact call_max2 hc pins s σ H _ us Q I r ⟨i, j, rfl, q _ _ _ _ Ext.refl hr rfl⟩
  · obtain ⟨v, rfl, rv⟩ := ra.one
    obtain ⟨o1, o2, o3, o4⟩ := okItems_of ok
    have o4 : PyData.depthAll (py x :: pys xs) ≤ 60 := o4
    obtain ⟨p, vs, ex, sq, rs⟩ := vSq_at hr rv e2
    subst ex
    rw [Vals.ref1 r]
    have dp := RVs.dp hr _ _ rs o2
    rcases sq with sq | sq
    · obtain ⟨its, rits, hl, _⟩ := I.list (by rw [hK]; exact sq)
      obtain ⟨as, hrd⟩ := Dp.readsAll I _ _ _ (by rw [hK]; exact dp) rits
      refine PySem.W.max_list_data (vs := its.toArray) (I.ok.hd hc) hl.isList hrd o3 (by omega) fun i v h' tk bs hv hb hk => ?_
      obtain ⟨w, g1, g2, g3⟩ := found_at hK I hr rs rits o1 o2 (by simpa using hv) hk hb
      exact ⟨w, H, g3, g1, q _ _ _ _ Ext.refl hr g2⟩
    · obtain ⟨its, rits, hl, _⟩ := I.tuple (by rw [hK]; exact sq)
      obtain ⟨as, hrd⟩ := Dp.readsAll I _ _ _ (by rw [hK]; exact dp) rits
      refine PySem.W.max_tuple_data (vs := its.toArray) (I.ok.hd hc) hl hrd o3 (by omega) fun i v h' tk bs hv hb hk => ?_
      obtain ⟨w, g1, g2, g3⟩ := found_at hK I hr rs rits o1 o2 (by simpa using hv) hk hb
      exact ⟨w, H, g3, g1, q _ _ _ _ Ext.refl hr g2⟩
variable {W : WX}
abbrev GM := AV → List AV → AH → Option (AV × AH)
def rmM (B : Bx) (g : GM) : V → List V → Hp → VK → Prop := fun x xs H Q => ∃ ρ F h a as c h', HR B ρ F h H ∧ RV B ρ F a x ∧ RVs B ρ F as xs ∧ g a as h = some (c, h') ∧ ∀ ρ' F' H' z, Ext ρ F H ρ' F' H' → HR B ρ' F' h' H' → RV B ρ' F' c z → Q z H'
/-- which values are of the type T -/
def TyOk (B : Bx) (T : String) (ty : AV → AH → Bool) : Prop := ∀ (ρ : List Addr) (F H : Hp) (h : AH) (a : AV) (x : V), HR B ρ F h H → RV B ρ F a x → ty a h = true → tyV B.K T x H
def tyL (a : AV) (h : AH) : Bool := (vLR h a).isSome
def tyS (a : AV) (_ : AH) : Bool := match a with
  | .str _ => true
  | _ => false
theorem ty_list : TyOk B "list" tyL := fun ρ F H h a x hr ra e => by
  unfold tyL at e
  cases k : vLR h a with
  | none => rw [k] at e; cases e
  | some xs =>
    obtain ⟨p, vs, ex, sq, _⟩ := vLR_at hr ra k
    subst ex
    exact .inl ⟨rfl, vs, sq⟩
theorem ty_str : TyOk B "str" tyS := fun ρ F H h a x hr ra e => by
  cases a with
  | str y =>
    have ra : x = .str y := ra
    subst ra
    exact rfl
  | _ => cases e
def mBM (ty : AV → AH → Bool) (g : GM) (mo : ME) (ma : MA) : ME := fun s h => (mo s h).bind fun a h1 => if ty a h1 = true then (ma s h1).bind fun as h2 => match g a as h2 with
  | some (c, h3) => .ok c h3
  | none => .stk
  else .stk
section
variable {o e : Expr} {es : List Expr} {name : Str} {apos cpos : Pos} {T id : String} {ty : AV → AH → Bool} {g : GM} {mo : ME} {ma : MA}
theorem se_bm (hty : TyOk B T ty) (pa : PlainAttrs T) (slot : Slot T name id) (htm : typeOf (.builtin id) = pure (.type "method_descriptor")) (hm : MtR X id (rmM B g)) (ho : SE B X W o mo) (ha : SA B X W (e :: es) ma)
    (hbase : attributeBase o name X.env (eval o X.env) = eval o X.env := by rfl)
    (hfew : ((backTo cpos (starEach (e :: es) X.env)).all (fun x => !x.1) && (backToKw cpos (keywordEach [] X.env)).all (fun x => x.1.isSome)
      && decide ((e :: es).length + ([] : List Keyword).length + (if ([] : List Keyword).isEmpty then 0 else 1) < 30)) = true := by rfl)
    (hline : (apos.endLine == cpos.line) = true := by rfl) (hs : starEach (e :: es) X.env = (false, eval e X.env) :: starEach es X.env := by rfl) (hplain : (backTo cpos (starEach es X.env)).any (·.1) = false := by rfl) (hK : X.K = B.K := by rfl) :
    SE B X W (.Call (.Attribute o name apos) (e :: es) [] cpos) (mBM ty g mo ma) :=
  PE.imp (pe_bm pa slot htm hm ho ha hbase hfew hline hs hplain) fun σ H Q ⟨ρ, F, h, s, sr, hr, p⟩ => ⟨ρ, F, h, s, sr, hr, p.andThen fun a h1 ρ1 F1 H1 x _ e1 hr1 ra p1 => by
    split at p1
    · rename_i ht
      refine ⟨by rw [hK]; exact hty _ _ _ _ _ _ hr1 ra ht, ρ1, F1, h1, s, sr.ext e1, hr1, p1.andThen fun as h2 ρ2 F2 H2 xs _ e2 hr2 rs p2 => ?_⟩
      split at p2
      · rename_i c h3 eg
        exact ⟨ρ2, F2, h2, a, as, c, h3, hr2, ra.ext e2, rs, eg, p2⟩
      · exact p2.elim
    · exact p1.elim⟩
theorem se_bm0 (hty : TyOk B T ty) (pa : PlainAttrs T) (slot : Slot T name id) (htm : typeOf (.builtin id) = pure (.type "method_descriptor")) (hm : MtR X id (rmM B g)) (ho : SE B X W o mo)
    (hbase : attributeBase o name X.env (eval o X.env) = eval o X.env := by rfl) (hline : (apos.endLine == cpos.line) = true := by rfl) (hK : X.K = B.K := by rfl) :
    SE B X W (.Call (.Attribute o name apos) [] [] cpos) (mBM ty g mo mNil) :=
  PE.imp (pe_bm0 pa slot htm hm ho hbase hline) fun σ H Q ⟨ρ, F, h, s, sr, hr, p⟩ => ⟨ρ, F, h, s, sr, hr, p.andThen fun a h1 ρ1 F1 H1 x _ e1 hr1 ra p1 => by
    split at p1
    · rename_i ht
      refine ⟨by rw [hK]; exact hty _ _ _ _ _ _ hr1 ra ht, ?_⟩
      have p1 : Post B (RV B) ρ1 F1 H1 (match g a [] h1 with
        | some (c, h3) => .ok c h3
        | none => .stk) Q (fun cls d H' => W cls d σ H') := p1
      split at p1
      · rename_i c h3 eg
        exact ⟨ρ1, F1, h1, a, [], c, h3, hr1, ra, rfl, eg, p1⟩
      · exact p1.elim
    · exact p1.elim⟩
end
def gAppend : GM := fun a as h => match a, as with
  | .ref n, [b] => match h[n]? with
    | some (.lst xs) => if xs.length < sizeLine then some (.non, h.set n (.lst (xs ++ [b]))) else none
    | _ => none
  | _, _ => none
theorem mt_gAppend : MtR X "list.append" (rmM B gAppend) := by
  intro pins s σ H x xs v us Q I rx rxs hh
  obtain ⟨ρ, F, h, a, as, c, h', hr, ra, rs, eg, q⟩ := hh
  unfold gAppend at eg
  split at eg
  · rename_i n b
    split at eg
    · rename_i ys e1
      split at eg
      · rename_i hl
        cases eg
        obtain ⟨p, ep, ex⟩ := ra
        subst ex
        obtain ⟨w, rfl, rb⟩ := rs.one
        obtain ⟨o, eo, ro⟩ := hr.at' ep
        rw [e1] at eo
        cases eo
        obtain ⟨u, eu, vs, eu2, rvs⟩ := ro
        subst eu2
        obtain ⟨hr2, ex2⟩ := hr.write (o := .lst (ys ++ [b])) (u := .lst (vs ++ [w])) ep ⟨_, upd_same, _, rfl, rvs.append ⟨w, [], rfl, rb, rfl⟩⟩ eu
        exact mt_append pins s σ H (.ref p) [w] v us Q I rx rxs ⟨p, vs, w, rfl, rfl, eu, by rw [← RVs.length rvs]; exact hl, q _ _ _ _ ex2 hr2 rfl⟩
      · cases eg
    · cases eg
  · cases eg
theorem RVs.dropLast {ρ : List Addr} {F : Hp} {xs : List AV} {vs : List V} (r : RVs B ρ F xs vs) : RVs B ρ F xs.dropLast vs.dropLast := by
  rw [List.dropLast_eq_take, List.dropLast_eq_take, RVs.length r]
  exact r.take _
theorem RVs.erase {ρ : List Addr} {F : Hp} : ∀ {xs : List AV} {vs : List V} (j : Nat), RVs B ρ F xs vs → RVs B ρ F (xs.eraseIdx j) (vs.eraseIdx j)
  | [], vs, j, r => by have r : vs = [] := r; subst r; exact rfl
  | a :: t, vs, 0, r => by obtain ⟨v, w, rfl, r1, r2⟩ := r; exact r2
  | a :: t, vs, j + 1, r => by obtain ⟨v, w, rfl, r1, r2⟩ := r; exact ⟨v, _, rfl, r1, RVs.erase j r2⟩
def gPop : GM := fun a as h => match a, as with
  | .ref n, [] => match h[n]? with
    | some (.lst xs) => (xs[xs.length - 1]?).map fun y => (y, h.set n (.lst xs.dropLast))
    | _ => none
  | .ref n, [.int i] => match h[n]? with
    | some (.lst xs) => if -(2 ^ 63) ≤ i ∧ i < 2 ^ 63 then (seqIndex? i xs.length).bind fun k => (xs[k]?).map fun y => (y, h.set n (.lst (xs.eraseIdx k))) else none
    | _ => none
  | _, _ => none
theorem mt_gPop : MtR X "list.pop" (rmM B gPop) := by
  intro pins s σ H x xs v us Q I rx rxs hh
  obtain ⟨ρ, F, h, a, as, c, h', hr, ra, rs, eg, q⟩ := hh
  unfold gPop at eg
  split at eg
  · rename_i n
    split at eg
    · rename_i ys e1
      obtain ⟨p, ep, ex⟩ := ra
      subst ex
      obtain rfl : xs = [] := rs
      obtain ⟨o, eo, ro⟩ := hr.at' ep
      rw [e1] at eo
      cases eo
      obtain ⟨u, eu, vs, eu2, rvs⟩ := ro
      subst eu2
      cases k : ys[ys.length - 1]? with
      | none => rw [k] at eg; cases eg
      | some y =>
        rw [k] at eg
        cases eg
        obtain ⟨w, ew, rw'⟩ := rvs.nth k
        obtain ⟨hr2, ex2⟩ := hr.write (o := .lst ys.dropLast) (u := .lst vs.dropLast) ep ⟨_, upd_same, _, rfl, rvs.dropLast⟩ eu
        exact mt_pop pins s σ H (.ref p) [] v us Q I rx rxs ⟨p, vs, w, rfl, rfl, eu, by rw [← RVs.length rvs]; exact ew, q _ _ _ _ ex2 hr2 (rw'.ext ex2)⟩
    · cases eg
  · rename_i n i
    split at eg
    · rename_i ys e1
      obtain ⟨p, ep, ex⟩ := ra
      subst ex
      rw [ints1 rs] at rxs
      obtain ⟨o, eo, ro⟩ := hr.at' ep
      rw [e1] at eo
      cases eo
      obtain ⟨u, eu, vs, eu2, rvs⟩ := ro
      subst eu2
      split at eg
      · rename_i hb
        cases k : seqIndex? i ys.length with
        | none => rw [k] at eg; cases eg
        | some j =>
          rw [k] at eg
          have eg : ((ys[j]?).map fun y => (y, h.set n (.lst (ys.eraseIdx j)))) = some (c, h') := eg
          cases k2 : ys[j]? with
          | none => rw [k2] at eg; cases eg
          | some y =>
            rw [k2] at eg
            cases eg
            obtain ⟨w, ew, rw'⟩ := rvs.nth k2
            obtain ⟨hr2, ex2⟩ := hr.write (o := .lst (ys.eraseIdx j)) (u := .lst (vs.eraseIdx j)) ep ⟨_, upd_same, _, rfl, rvs.erase j⟩ eu
            exact mt_popAt pins s σ H (.ref p) [.int i] v us Q I rx rxs ⟨p, vs, i, j, w, rfl, rfl, eu, hb.1, hb.2, by rw [← RVs.length rvs]; exact k, ew, q _ _ _ _ ex2 hr2 (rw'.ext ex2)⟩
      · cases eg
    · cases eg
  · cases eg
end
end NC
end S3
end
section
set_option Elab.async false
set_option linter.all false
set_option maxRecDepth 100000
set_option maxHeartbeats 4000000
namespace S3
open PySem PySem.Spec PyProof.Rows L2
noncomputable section NC
section
variable {B : Bx} {X : Cx} {W : WX}
def mChain (g g' : G2) (ma mb mc : ME) : ME := fun s h => (ma s h).bind fun a h1 => (mb s h1).bind fun b h2 => match g a b h2 with
  | some (.bl true) => (mc s h2).bind fun c h3 => ofO (g' b c h3) h3
  | some (.bl false) => .ok (.bl false) h2
  | _ => .stk
theorem chain_imp {g g' : G2} {ma mb mc : ME} {σ : L2.St} {H : Hp} {Q : VK} (h : tm B W (mChain g g' ma mb mc) σ H Q) : tChain (rm2 B g) (rm2 B g') (tm B W ma) (tm B W mb) (tm B W mc) σ H Q := by
  obtain ⟨ρ, F, h, s, sr, hr, p⟩ := h
  refine ⟨ρ, F, h, s, sr, hr, p.andThen fun a h1 ρ1 F1 H1 x _ e1 hr1 ra p1 => ?_⟩
  refine ⟨ρ1, F1, h1, s, sr.ext e1, hr1, p1.andThen fun b h2 ρ2 F2 H2 y _ e2 hr2 rb p2 => ?_⟩
  cases k : g a b h2 with
  | none => rw [k] at p2; exact p2.elim
  | some c =>
    rw [k] at p2
    refine ⟨ρ2, F2, h2, a, b, c, hr2, ra.ext e2, rb, k, fun ρ3 F3 H3 z e3 hr3 rz => ?_⟩
    cases c with
    | bl d =>
      have rz : z = .bl d := rz
      refine ⟨d, rz, ?_⟩
      cases d with
      | false =>
        rw [if_neg (by decide)]
        exact p2 ρ3 F3 H3 (.bl false) e3 hr3 rfl
      | true =>
        rw [if_pos rfl]
        refine ⟨ρ3, F3, h2, s, ((sr.ext e1).ext e2).ext e3, hr3, (Post.ext e3 p2).andThen fun c h4 ρ4 F4 H4 y4 _ e4 hr4 rc p4 => ?_⟩
        obtain ⟨d, ed, q⟩ := ofO_post p4
        exact ⟨ρ4, F4, h4, b, c, d, hr4, (rb.ext e3).ext e4, rc, ed, q⟩
    | _ => exact p2.elim
section
variable {op op' : CmpOp} {g g' : G2} {a b c : Expr} {ma mb mc : ME} {pos : Pos}
theorem st_chain (ho : OpR X (compareOp op) (rm2 B g)) (ho' : OpR X (compareOp op') (rm2 B g')) (ha : SE B X W a ma) (hb : SE B X W b mb) (hc : SE B X W c mc) (hm : lastMarks [op, op'] [b, c] = false := by with_unfolding_all rfl) : STt B X W (.Compare a [op, op'] [b, c] pos) (mTest (mChain g g' ma mb mc)) :=
  PT.imp (pt_chain ho ho' ha hb hc hm) fun σ H Q h => test_imp (t := tChain (rm2 B g) (rm2 B g') (tm B W ma) (tm B W mb) (tm B W mc)) (fun _ _ _ h => chain_imp h) h
end
def mPar (i j : Nat) (ma : MA) : MS := fun s h => (ma s h).toS s fun as h1 => match as with
  | [v, w] => .nx ((s.set i (some v)).set j (some w)) h1
  | _ => .stk
def mPar3 (i j k : Nat) (ma : MA) : MS := fun s h => (ma s h).toS s fun as h1 => match as with
  | [v, w, z] => .nx (((s.set i (some v)).set j (some w)).set k (some z)) h1
  | _ => .stk
end
end NC
end S3
end
section
set_option Elab.async false
set_option linter.all false
set_option maxRecDepth 100000
set_option maxHeartbeats 4000000
namespace S3
open PySem PySem.Spec PyProof.Rows L2
noncomputable section NC
theorem hu_of64 {k : Nat} {A : Around} (hr : Room k A) : A.units + 64 < cLine := by have := hr.un; omega
section
variable {B : Bx} {X : Cx} {W : WX}
theorem sv {i : Nat} {x : Str} {pos : Pos} (hN : X.N[i]? = some x := by rfl) (hv : Vis X.env.scope x := by first | exact .inl rfl | exact .inr (.inl rfl) | exact .inr (.inr rfl)) (hd : (x == ("__debug__" : Str)) = false := by decide) (hcd : (x == ("__classdict__" : Str)) = false := by decide) : SE B X W (.Name x pos) (mVar i) := se_var hN hv hd hcd
theorem sg_nm {i : Nat} {x : Str} {pos : Pos} (hN : X.N.Nodup) (hi : X.N[i]? = some x := by rfl) (hx : Loc X.env.scope x := by first | exact .inl rfl | exact .inr rfl) (hf : X.fn x = true ∨ X.env.scope.names.lookup x = some .local := by first | exact .inl rfl | exact .inr rfl) : SG B X (.Name x pos) [i] (tName i) := sg_name hN hi hx hf
theorem ss_nm {i : Nat} {x : Str} {e : Expr} {m : ME} {pos pos' : Pos} (hN : X.N.Nodup) (he : SE B X W e m) (hi : X.N[i]? = some x := by rfl) (hx : Loc X.env.scope x := by first | exact .inl rfl | exact .inr rfl) (hs : swapsWith e (some (.Name x pos')) pos.line X.env = pure false := by rfl) (hf : X.fn x = true ∨ X.env.scope.names.lookup x = some .local := by first | exact .inl rfl | exact .inr rfl) :
    SS B X W (.Assign [.Name x pos'] e pos) (mAsg m (tName i)) := ss_set hN hi hx he hs hf
theorem sss_forgets (vs : List Nat) : SSs B X W [] (mForget vs) := PSs.imp pss_nil fun D σ H ⟨ρ, F, h, s, sr, hr, p⟩ => p ρ F H σ Ext.refl hr (sr.forget vs)
def mAndE (a b : ME) : ME := fun s h => (a s h).bind fun x h1 => match x with
  | .bl true => b s h1
  | .bl false => .ok (.bl false) h1
  | _ => .stk
section
variable {e e1 : Expr} {es : List Expr} {p p1 pos pos1 : Pos} {m : MA}
end
def mListM (m : MA) : ME := fun s h => (m s h).bind fun as h1 => match as with
  | [a] => match vSq h1 a with
    | some xs => .ok (.ref h1.length) (h1 ++ [.lst xs])
    | none => .stk
  | _ => .stk
structure ExT (B : Bx) (c : Str) where
  C : Addr
  mg : B.mg c = some (.ref C)
  kp : PySem.W.keepIn B.K (.ref C) = true
  q : PySem.W.excIn B.K C [.type "ValueError", .type "Exception", .type "BaseException", .type "object"] "ValueError.__new__" = true
  bF : PySem.W.subIn B.K (.ref C) (.type "BaseException") = some true
  tF : PySem.W.typeIn B.K (.ref C) = some (.type "type")
theorem ss_raiseX {c m : Str} {j : Nat} {p p2 p3 pos : Pos} (E : ExT B c) (tk : Takes X W) (hc : X.calm = true) (hK : X.K = B.K := by rfl) (hmg : X.mg = B.mg := by rfl) (hg : Gl X c := by rfl) (hdb : (c == ("__debug__" : Str)) = false := by decide) : SS B X W (.Raise (some (.Call (.Name c p) [.Constant (.str m) j p2] [] p3)) none pos) (mRaise c) :=
  ss_raise PySem.F.excBase_ValueError (by rw [hK]; exact E.q) (by rw [hmg]; exact E.mg) (by rw [hK]; exact E.kp) (raises_own (by rw [hK]; exact E.bF) (by rw [hK]; exact E.tF)) hg hc tk E.mg hdb
structure FunC (K : PySem.W.Frag) (x qual : Str) (st : Stmt) (f : Addr) (fd : FuncData) (c : Addr) : Prop where
  ex : ∃ (oc : Value) (od : Option Addr) (dV kV doc pm : Value) (an : Option Addr) (ct : Value) (osl : Array (Option Value)),
    fd = PySem.W.fnOf x qual (defArgs st) (defBody st) (defScope st) dV kV doc pm an (.ref c) ct ∧ K.lookup f = some ⟨oc, od, .func fd, osl⟩ ∧ PySem.W.codeIn K (.ref c) qual = true
  kp : PySem.W.keepIn K (.ref f) = true
theorem fn_bodyC {P : Program} {w : World} {base : Heap} {k : Nat} {f c : Addr} {fd : FuncData} {ps : List Str} {x qual : Str} {st : Stmt} {N : List Str} {m : MS} (Fu : FunC B.K x qual st f fd c) (S : FnScope N ps (defScope st))
    (hb : ∀ (A : Around) (outer : List Env) (s : Shared) (H : Hp) (E : XK), Room k (A.deeper (envOfC qual (defScope st) s.heap.objs.size f (.ref c))) → SSs B (bodyCx B P w base N qual st f (.ref c) A outer s H E) (fun cls d _ H => E cls d H) (defBody st) m) {nN nP : Nat} (hn : N.length = nN := by decide) (hp : ps.length = nP := by decide) :
    FnP B P w base (k + 1) f fd ps (defSem nN nP m) := by
  subst hn hp
  obtain ⟨oc, od, dV, kV, doc, pm, an, ct, osl, rfl, lk, hcd⟩ := Fu.ex
  refine fn_of lk hcd S (fun vs H Q E ⟨ρ, F, h, as, hr, ra, p⟩ => ?_) (fun A outer s H vs Q E hr ⟨ρ, F, h, as, hR, ra, p⟩ => ⟨_, hb A outer s H E hr, ?_⟩)
  · unfold defSem at p
    split at p
    · rename_i hl
      rw [← RVs.length ra]; exact hl
    · exact p.elim
  · unfold defSem at p
    split at p
    · rename_i hl
      refine ⟨ρ, F, h, _, start_at ra rfl, hR, ?_⟩
      rw [← hl] at p
      exact fin_post p
    · exact p.elim
end
end NC
end S3
end
section
set_option Elab.async false
set_option linter.all false
set_option maxRecDepth 100000
set_option maxHeartbeats 4000000
namespace S3
open PySem PySem.Spec PyProof.Rows L2
noncomputable section NC
section
variable {B : Bx} {X : Cx} {W : WX}
theorem tk0 {X : Cx} : Takes X noW := L2.takes0
theorem tkL {X : Cx} {A : Around} {outer : List Env} {s : Shared} {H : Hp} {E : XK} {scope : Scope} {f c' : Addr} : Takes (LamX.lamCx X A outer s H E scope f c') (fun cls d _ H => E cls d H) := takes_of rfl rfl rfl rfl
theorem funC_of {K : PySem.W.Frag} {d : He.DefD} {x qual : Str} {st : Stmt} {fd : FuncData} (F : FunD K x qual (defArgs st) (defBody st) (defScope st) [] [] (He.fAd K d.at_) fd) : FunC K x qual st (He.fAd K d.at_) fd (He.codeOf K d.at_) := by
  obtain ⟨oc, od, dV, kV, doc, pm, an, cdv, ct, osl, rfl, lk, hcd, _, _⟩ := F.ex
  obtain ⟨c, rfl⟩ := He.codeIn_ref hcd
  have e := He.codeOf_eq lk (c := c) rfl
  rw [e]
  exact ⟨⟨oc, od, dV, kV, doc, pm, an, ct, osl, rfl, lk, hcd⟩, F.kp⟩
theorem exT_of {K : PySem.W.Frag} {h : Heap} {mg : Str → Option Value} {T : List (Addr × Str)} {G : List Addr} {c : Str} (X : K.In h) (Gm : h.Ns mainGlobals mg) (g : (He.Fa.glo c).ok K = true) (e : (He.Fa.exc c).ok K = true) : ∃ E : ExT ⟨K, mg, T, G⟩ c, E.C = He.ga K c := by
  obtain ⟨e1, e2, e3, e4⟩ := He.exc_ok e
  exact ⟨⟨He.ga K c, He.glo_ok X Gm g, e2, e1, e3, e4⟩, rfl⟩
/-- the law is called with the script, nothing else being tracked but the tables -/
theorem law_start {g : Fn} {a : Addr} {ns : List Int} {H : Hp} (hT : ∀ p ∈ B.T, H p.1 = some (.tbl #[])) (hS : SqL B.K H a (ns.map V.int)) {h' : AH} (e : g [.rdl (ns.map AV.int)] [] = .ok (.bl true) h') : spF B g [.ref a] H (fun v _ => v = .bl true) fun _ _ _ => False := by
  have hI : ∀ (ρ : List Addr) (F : Hp) (ns : List Int), RVs B ρ F (ns.map AV.int) (ns.map V.int) := fun ρ F ns => by
    induction ns with
    | nil => exact rfl
    | cons n r ih => exact ⟨_, _, rfl, rfl, ih⟩
  have key : ∀ F : Hp, (∀ p u, F p = some u → H p = some u) → (∀ p ps, F p ≠ some (.tbl ps)) → SqL B.K F a (ns.map V.int) → spF B g [.ref a] H (fun v _ => v = .bl true) fun _ _ _ => False := fun F hs hn hq => by
    refine ⟨[], F, [], [.rdl (ns.map AV.int)], ⟨hs, rfl, .nil, fun i p m _ => by simp at m, fun i p o e1 e2 => by simp at e2, fun p hp => LamX.TabS.nil (hT p hp), hn⟩, ⟨_, [], rfl, ⟨a, _, rfl, hq, hI _ _ _⟩, rfl⟩, ?_⟩
    rw [e]
    exact fun _ _ _ _ _ _ r => r
  rcases hS with (h | ⟨o, h⟩) | h
  · refine key (fun b => if b = a then some (.lst (ns.map V.int)) else none) (fun p u e => ?_) (fun p ps e => ?_) (.inl (.inl (if_pos rfl)))
    · by_cases hp : p = a
      · rw [if_pos hp] at e
        rw [hp, h]; exact e
      · rw [if_neg hp] at e; cases e
    · by_cases hp : p = a
      · rw [if_pos hp] at e; cases e
      · rw [if_neg hp] at e; cases e
  · refine key (fun b => if b = a then some (.frz o (.lst (ns.map V.int))) else none) (fun p u e => ?_) (fun p ps e => ?_) (.inl (.inr ⟨o, if_pos rfl⟩))
    · by_cases hp : p = a
      · rw [if_pos hp] at e
        rw [hp, h]; exact e
      · rw [if_neg hp] at e; cases e
    · by_cases hp : p = a
      · rw [if_pos hp] at e; cases e
      · rw [if_neg hp] at e; cases e
  · exact key (fun _ => none) (fun _ _ e => by cases e) (fun _ _ e => by cases e) (.inr h)
end
end NC
end S3
namespace S3
open PySem PySem.Spec PyProof.Rows L2
noncomputable section NC
theorem clsF_of {B : Bx} {c : Str} {C : Addr} {fs : List Str} (g : B.mg c = some (.ref C)) (k : Cls B.K C) (n : ∀ f, f ∈ fs → NoAttr B.K C f) : ClsF B c fs :=
  ⟨fun C' e => by rw [g] at e; cases e; exact k, fun C' e f hf => by rw [g] at e; cases e; exact n f hf⟩
theorem tabs_uniq {T : List (Addr × Str)} (h : (T.map (·.1)).Nodup) : ∀ (P : Addr) (q : Str), (P, q) ∈ T → ∀ p ∈ T, p.1 = P → p.2 = q := by
  induction T with
  | nil => intro P q hm; cases hm
  | cons t r ih =>
    rw [List.map_cons, List.nodup_cons] at h
    intro P q hm p hp e
    rcases List.mem_cons.mp hm with e1 | h1
    · rcases List.mem_cons.mp hp with e2 | h2
      · rw [e2, ← e1]
      · exact absurd (List.mem_map_of_mem (f := (·.1)) h2) (by rw [e, ← congrArg (·.1) e1] at *; exact h.1)
    · rcases List.mem_cons.mp hp with e2 | h2
      · exact absurd (List.mem_map_of_mem (f := (·.1)) h1) (by show P ∉ _; rw [← e, e2]; exact h.1)
      · exact ih h.2 P q h1 p h2 e
end NC
end S3
end
section
set_option Elab.async false
set_option linter.all false
set_option maxRecDepth 100000
set_option maxHeartbeats 4000000
namespace S3
open PySem PySem.Spec PyProof.Rows L2
noncomputable section NC
/-- what is known where such an expression stands -/
structure QS (X : Cx) (cenv : Env) (A' : Around) (σ : L2.St) (H : Hp) (s : Shared) : Prop where
  hd : A'.handled = none
  un : A'.units + 100 < cLine
  nest : A'.depth ≤ X.A.depth + 4 ∧ A'.units ≤ X.A.units + 90
  hok : HOk X.prog X.w H s.heap
  bk : ∀ b o, X.base.get? b = some o → s.heap.get? b = some o
  mod : Mod X.K X.mg X.base
  kind : cenv.scope.kind = .function
  glob : cenv.globals = mainGlobals
  blt : cenv.builtins = builtinsNs
  loc : ∃ m, s.heap.Ns cenv.locals m ∧ ∀ (i : Nat) (x : Str) (v : V), X.N[i]? = some x → σ[i]? = some (some v) → Vis cenv.scope x → ∃ u, RelV v u ∧ Look cenv s.heap m x u
theorem keeps_trans {s s' s2 : Shared} (a : Keeps s s') (b : Keeps s' s2) : Keeps s s2 := by
  obtain ⟨h1, t1, rfl, k1⟩ := a
  obtain ⟨h2, t2, rfl, k2⟩ := b
  exact ⟨h2, t2, rfl, fun b o e => k2 b o (k1 b o e)⟩
theorem QS.keeps {X : Cx} {cenv : Env} {A' : Around} {σ : L2.St} {H : Hp} {s s' : Shared} (q : QS X cenv A' σ H s) (k : Keeps s s') : QS X cenv A' σ H s' := by
  obtain ⟨h', tk, rfl, k⟩ := k
  obtain ⟨m, hn, hl⟩ := q.loc
  refine ⟨q.hd, q.un, q.nest, q.hok.kept k, fun b o e => k _ _ (q.bk b o e), q.mod, q.kind, q.glob, q.blt, m, hn.keeps k, fun i x v e1 e2 e3 => ?_⟩
  obtain ⟨u, r, l⟩ := hl i x v e1 e2 e3
  refine ⟨u, r, ?_⟩
  rcases l with l | ⟨l, c, hc, o, ho, hd⟩
  · exact .inl l
  · exact .inr ⟨l, c, hc, o, k _ _ ho, hd⟩
abbrev QE := Sl → AH → Option AV
abbrev QT := Sl → AH → Option Bool
def QV (B : Bx) (ρ : List Addr) (F : Hp) (a : AV) (y : Value) : Prop := ∃ v, RelV v y ∧ RV B ρ F a v
section
variable (B : Bx) (X : Cx) (sc : Scope)
def SQ (e : Expr) (q : QE) : Prop := ∀ (cenv : Env) (A' : Around) (E' : Value → Shared → Prop) (s : Shared) (ρ : List Addr) (F : Hp) (h : AH) (H : Hp) (sl : Sl) (σ : L2.St) (a : AV), cenv.scope = sc → QS X cenv A' σ H s → HR B ρ F h H → SR B ρ F sl σ → q sl h = some a →
  wpAny (model X.prog X.w) A' (eval e cenv) (fun y s' => QV B ρ F a y ∧ Keeps s s') E' s
def SQT (e : Expr) (q : QT) : Prop := ∀ (cenv : Env) (A' : Around) (E' : Value → Shared → Prop) (s : Shared) (ρ : List Addr) (F : Hp) (h : AH) (H : Hp) (sl : Sl) (σ : L2.St) (a : Bool), cenv.scope = sc → QS X cenv A' σ H s → HR B ρ F h H → SR B ρ F sl σ → q sl h = some a →
  wpAny (model X.prog X.w) A' (isTrue e cenv (eval e cenv)) (fun y s' => y = a ∧ Keeps s s') E' s
def OpQ (f : Value → Value → Sem Value) (g : G2) : Prop := ∀ (A' : Around) (E' : Value → Shared → Prop) (s : Shared) (ρ : List Addr) (F : Hp) (h : AH) (H : Hp) (a b c : AV) (v u : Value), A'.handled = none → A'.units + 100 < cLine → HOk X.prog X.w H s.heap → X.K.In s.heap → HR B ρ F h H → QV B ρ F a v → QV B ρ F b u → g a b h = some c →
  wpAny (model X.prog X.w) A' (f v u) (fun y s' => QV B ρ F c y ∧ Keeps s s') E' s
end
section
variable {B : Bx} {X : Cx} {sc : Scope}
def qVar (i : Nat) : QE := fun s _ => (s[i]?).join
def qC (a : AV) : QE := fun _ _ => some a
def qBin (g : G2) (a b : QE) : QE := fun s h => (a s h).bind fun x => (b s h).bind fun y => g x y h
def qTest (a : QE) : QT := fun s h => (a s h).bind fun x => match x with
  | .bl b => some b
  | _ => none
def qUn (g : G1) (a : QE) : QE := fun s h => (a s h).bind fun x => g x h
def qChain (g g' : G2) (a b c : QE) : QE := fun s h => (a s h).bind fun x => (b s h).bind fun y => match g x y h with
  | some (.bl true) => (c s h).bind fun z => g' y z h
  | some (.bl false) => some (.bl false)
  | _ => none
theorem QS.kin {cenv : Env} {A' : Around} {σ : L2.St} {H : Hp} {s : Shared} (q : QS X cenv A' σ H s) : X.K.In s.heap := q.mod.kin.keeps q.bk
theorem sq_var {i : Nat} {x : Str} {pos : Pos} (hN : X.N[i]? = some x := by rfl) (hv : Vis sc x := by first | exact .inl rfl | exact .inr (.inl rfl) | exact .inr (.inr rfl)) (hd : (x == ("__debug__" : Str)) = false := by decide) (hcd : (x == ("__classdict__" : Str)) = false := by decide) : SQ B X sc (.Name x pos) (qVar i) := by
  intro cenv A' E' s ρ F h H sl σ a es q hr sr e
  have e : (sl[i]?).join = some a := e
  have e1 : sl[i]? = some (some a) := by
    cases k : sl[i]? with
    | none => rw [k] at e; cases e
    | some o => rw [k] at e; cases o with
      | none => cases e
      | some b => cases e; rfl
  obtain ⟨v, ev, rv⟩ := sr.2 i a e1
  obtain ⟨m, hn, hl⟩ := q.loc
  obtain ⟨u, r, l⟩ := hl i x v hN ev (by rw [es]; exact hv)
  have fin : QV B ρ F a u ∧ Keeps s s := ⟨⟨v, r, rv⟩, GxR.keeps_refl s⟩
  rcases l with ⟨hk, hm⟩ | ⟨hk, c, hc, hcell⟩
  · exact wpAny_Name (wpAny_loadName_local q.kind hk hn hm fin) hd
  · rcases hk with hk | hk
    · exact wpAny_Name (wpAny_loadName_cell q.kind hk hc hcell fin) hd
    · exact wpAny_Name (wpAny_loadName_free q.kind hk hc hcell fin hcd) hd
theorem sq_bin {op : Operator} {g : G2} {a b : Expr} {qa qb : QE} {pos : Pos} (ho : OpQ B X (binaryOp op) g) (ha : SQ B X sc a qa) (hb : SQ B X sc b qb) : SQ B X sc (.BinOp a op b pos) (qBin g qa qb) := by
  intro cenv A' E' s ρ F h H sl σ c es q hr sr e
  have e : ((qa sl h).bind fun x => (qb sl h).bind fun y => g x y h) = some c := e
  obtain ⟨x, e1, e⟩ := Option.bind_eq_some_iff.mp e
  obtain ⟨y, e2, e⟩ := Option.bind_eq_some_iff.mp e
  refine wpAny_BinOp (thn (ha cenv A' _ s ρ F h H sl σ x es q hr sr e1) fun v s1 ⟨r1, k1⟩ => thn (hb cenv A' _ s1 ρ F h H sl σ y es (q.keeps k1) hr sr e2) fun u s2 ⟨r2, k2⟩ => ?_)
  have q2 := (q.keeps k1).keeps k2
  exact thn (ho A' _ s2 ρ F h H x y c v u q2.hd q2.un q2.hok q2.kin hr r1 r2 e) fun w s3 ⟨r3, k3⟩ => ⟨r3, keeps_trans (keeps_trans k1 k2) k3⟩
theorem qv_int {ρ : List Addr} {F : Hp} {i : Int} {y : Value} (h : QV B ρ F (.int i) y) : ∃ t, y = .int i t := by
  obtain ⟨v, r, e⟩ := h
  have e : v = .int i := e
  subst e
  exact r
theorem int_qv {ρ : List Addr} {F : Hp} {i : Int} {t : Tok} : QV B ρ F (.int i) (.int i t) := ⟨.int i, ⟨t, rfl⟩, rfl⟩
theorem bl_qv {ρ : List Addr} {F : Hp} {b : Bool} : QV B ρ F (.bl b) (.bool b) := ⟨.bl b, rfl, rfl⟩
theorem sq_int {i : Int} {j : Nat} {pos : Pos} : SQ B X sc (.Constant (.int i) j pos) (qC (.int i)) := fun cenv A' E' s ρ F h H sl σ c es q hr sr e => by
  cases e
  exact wpAny_Constant_int ⟨int_qv, GxR.keeps_tok s _⟩
theorem sq_str {i : Str} {j : Nat} {pos : Pos} : SQ B X sc (.Constant (.str i) j pos) (qC (.str i)) := fun cenv A' E' s ρ F h H sl σ c es q hr sr e => by
  cases e
  exact Calls.Constant_str ⟨⟨.str i, ⟨_, rfl⟩, rfl⟩, GxR.keeps_tok s _⟩
theorem oq_I {f : Value → Value → Sem Value} {C : Int → Int → Prop} [∀ i j, Decidable (C i j)] {g : Int → Int → Int}
    (rule : ∀ (A' : Around) (i j : Int) (t u : Tok) (s : Shared) (Q : Value → Shared → Prop) (E : Value → Shared → Prop), C i j → Q (.int (g i j) s.toks) { s with toks := s.toks + 1 } → wpAny (model X.prog X.w) A' (f (.int i t) (.int j u)) Q E s) : OpQ B X f (gI2 C fun i j => .int (g i j)) := by
  intro A' E' s ρ F h H a b c v u hd un hok kin hr ra rb e
  unfold gI2 at e
  split at e
  · split at e
    · cases e
      obtain ⟨t, rfl⟩ := qv_int ra
      obtain ⟨t', rfl⟩ := qv_int rb
      exact rule A' _ _ _ _ s _ _ (by assumption) ⟨int_qv, GxR.keeps_tok s _⟩
    · cases e
  · cases e
/-- ints alone -/
abbrev gAddQ : G2 := gI2 (fun _ _ => True) fun i j => .int (i + j)
theorem oq_gAdd : OpQ B X (binaryOp .Add) gAddQ := oq_I fun _ _ _ _ _ _ _ _ _ q => add_int q
def gCmpQ (p : Int → Int → Bool) : G2 := fun a b _ => match a, b with
  | .int i, .int j => some (.bl (p i j))
  | _, _ => none
theorem oq_cmp {f : Value → Value → Sem Value} {p : Int → Int → Bool}
    (rule : ∀ (A' : Around) (i j : Int) (t u : Tok) (s : Shared) (Q : Value → Shared → Prop) (E : Value → Shared → Prop), Q (.bool (p i j)) s → wpAny (model X.prog X.w) A' (f (.int i t) (.int j u)) Q E s) : OpQ B X f (gCmpQ p) := by
  intro A' E' s ρ F h H a b c v u hd un hok kin hr ra rb e
  unfold gCmpQ at e
  split at e
  · cases e
    obtain ⟨t, rfl⟩ := qv_int ra
    obtain ⟨t', rfl⟩ := qv_int rb
    exact rule A' _ _ _ _ s _ _ ⟨bl_qv, GxR.keeps_refl s⟩
  · cases e
abbrev gLtQ : G2 := gCmpQ fun i j => decide (i < j)
abbrev gLeQ : G2 := gCmpQ fun i j => decide (i ≤ j)
abbrev gGtQ : G2 := gCmpQ fun i j => decide (j < i)
abbrev gGeQ : G2 := gCmpQ fun i j => decide (j ≤ i)
theorem oq_gLt : OpQ B X (compareOp .Lt) gLtQ := oq_cmp fun _ _ _ _ _ _ _ _ q => lt_int q
theorem oq_gGt : OpQ B X (compareOp .Gt) gGtQ := oq_cmp fun _ _ _ _ _ _ _ _ q => gt_int q
theorem sq_cmp {op : CmpOp} {g : G2} {a b : Expr} {qa qb : QE} {pos : Pos} (ho : OpQ B X (compareOp op) g) (ha : SQ B X sc a qa) (hb : SQ B X sc b qb) (hm : behindInMarks op b = false := by first | exact nomark _ | rfl) : SQ B X sc (.Compare a [op] [b] pos) (qBin g qa qb) := by
  intro cenv A' E' s ρ F h H sl σ c es q hr sr e
  have e : ((qa sl h).bind fun x => (qb sl h).bind fun y => g x y h) = some c := e
  obtain ⟨x, e1, e⟩ := Option.bind_eq_some_iff.mp e
  obtain ⟨y, e2, e⟩ := Option.bind_eq_some_iff.mp e
  refine wpAny_Compare1 (thn (ha cenv A' _ s ρ F h H sl σ x es q hr sr e1) fun v s1 ⟨r1, k1⟩ => thn (hb cenv A' _ s1 ρ F h H sl σ y es (q.keeps k1) hr sr e2) fun u s2 ⟨r2, k2⟩ => ?_) hm
  have q2 := (q.keeps k1).keeps k2
  exact thn (ho A' _ s2 ρ F h H x y c v u q2.hd q2.un q2.hok q2.kin hr r1 r2 e) fun w s3 ⟨r3, k3⟩ => ⟨r3, keeps_trans (keeps_trans k1 k2) k3⟩
theorem qv_bl {ρ : List Addr} {F : Hp} {b : Bool} {y : Value} (h : QV B ρ F (.bl b) y) : y = .bool b := by
  obtain ⟨v, r, e⟩ := h
  have e : v = .bl b := e
  subst e
  exact r
theorem qTest_at {a : QE} {s : Sl} {h : AH} {b : Bool} (e : qTest a s h = some b) : a s h = some (.bl b) := by
  have e : ((a s h).bind fun x => match x with
    | .bl b => some b
    | _ => none) = some b := e
  obtain ⟨x, e1, e⟩ := Option.bind_eq_some_iff.mp e
  split at e
  · cases e; exact e1
  · cases e
theorem sqt_cmp {op : CmpOp} {g : G2} {a b : Expr} {qa qb : QE} {pos : Pos} (ho : OpQ B X (compareOp op) g) (ha : SQ B X sc a qa) (hb : SQ B X sc b qb) (hm : behindInMarks op b = false := by first | exact nomark _ | rfl) : SQT B X sc (.Compare a [op] [b] pos) (qTest (qBin g qa qb)) := by
  intro cenv A' E' s ρ F h H sl σ c es q hr sr e
  have e : ((qa sl h).bind fun x => (qb sl h).bind fun y => g x y h) = some (.bl c) := qTest_at e
  obtain ⟨x, e1, e⟩ := Option.bind_eq_some_iff.mp e
  obtain ⟨y, e2, e⟩ := Option.bind_eq_some_iff.mp e
  refine wpAny_isTrue_Compare1 (thn (ha cenv A' _ s ρ F h H sl σ x es q hr sr e1) fun v s1 ⟨r1, k1⟩ => thn (hb cenv A' _ s1 ρ F h H sl σ y es (q.keeps k1) hr sr e2) fun u s2 ⟨r2, k2⟩ => ?_) hm
  have q2 := (q.keeps k1).keeps k2
  refine thn (ho A' _ s2 ρ F h H x y _ v u q2.hd q2.un q2.hok q2.kin hr r1 r2 e) fun w s3 ⟨r3, k3⟩ => ?_
  rw [qv_bl r3]
  exact wpAny_truthy_bool ⟨rfl, keeps_trans (keeps_trans k1 k2) k3⟩
end
end NC
end S3
end
section
set_option Elab.async false
set_option linter.all false
set_option maxRecDepth 100000
set_option maxHeartbeats 4000000
namespace S3
open PySem PySem.Spec PyProof.Rows L2
noncomputable section NC
section
variable (xs : List AV) (tv : AV → Option Bool) (ev : AV → Option AV)
def itemG (x : AV) : Option AV := if tv x = some true then ev x else none
def itemsOk : Bool := xs.all fun x => match tv x with
  | some true => (ev x).isSome
  | some false => true
  | none => false
def pzOf (i : Nat) : Bool := match xs[i]? with
  | some x => decide (tv x = some true)
  | none => false
theorem items_pass (hok : itemsOk xs tv ev = true) : ∀ (l : List Nat), (∀ i ∈ l, i < xs.length) → (l.filterMap fun i => (xs[i]?).bind (itemG tv ev)).length = (l.filter (pzOf xs tv)).length ∧
    ∀ (j i : Nat), (l.filter (pzOf xs tv))[j]? = some i → ∃ (x a : AV), xs[i]? = some x ∧ tv x = some true ∧ ev x = some a ∧ (l.filterMap fun i => (xs[i]?).bind (itemG tv ev))[j]? = some a
  | [], _ => ⟨rfl, fun j i e => by cases e⟩
  | i0 :: r, hl => by
    obtain ⟨ih1, ih2⟩ := items_pass hok r fun i hi => hl i (List.mem_cons_of_mem _ hi)
    have hi0 := hl i0 List.mem_cons_self
    have ex : xs[i0]? = some xs[i0] := List.getElem?_eq_getElem hi0
    have hx := List.all_eq_true.mp hok xs[i0] (List.getElem_mem hi0)
    by_cases ht : tv xs[i0] = some true
    · rw [ht] at hx
      obtain ⟨a, ea⟩ := Option.isSome_iff_exists.mp hx
      have hp : pzOf xs tv i0 = true := by unfold pzOf; rw [ex]; exact decide_eq_true ht
      have hg : ((xs[i0]?).bind (itemG tv ev)) = some a := by rw [ex]; show itemG tv ev xs[i0] = _; unfold itemG; rw [if_pos ht, ea]
      rw [List.filter_cons_of_pos hp, List.filterMap_cons_some (f := fun i => (xs[i]?).bind (itemG tv ev)) hg]
      refine ⟨by rw [List.length_cons, List.length_cons, ih1], fun j i e => ?_⟩
      cases j with
      | zero => cases e; exact ⟨_, a, ex, ht, ea, rfl⟩
      | succ j => exact ih2 j i e
    · have hp : ¬ pzOf xs tv i0 = true := by unfold pzOf; rw [ex]; exact fun z => ht (of_decide_eq_true z)
      have hg : ((xs[i0]?).bind (itemG tv ev)) = none := by rw [ex]; show itemG tv ev xs[i0] = _; unfold itemG; rw [if_neg ht]
      rw [List.filter_cons_of_neg hp, List.filterMap_cons_none (f := fun i => (xs[i]?).bind (itemG tv ev)) hg]
      exact ⟨ih1, ih2⟩
end
theorem filterMap_ix {α β : Type} (g : α → Option β) : ∀ xs : List α, ((List.range xs.length).filterMap fun i => (xs[i]?).bind g) = xs.filterMap g
  | [] => rfl
  | x :: r => by
    rw [List.length_cons, List.range_succ_eq_map, List.filterMap_cons, List.filterMap_map]
    have e : ((fun i => ((x :: r)[i]?).bind g) ∘ Nat.succ) = fun i => (r[i]?).bind g := rfl
    rw [e, filterMap_ix g r]
    rfl
theorem nd_at {α : Type} {l : List α} (h : l.Nodup) {i j : Nat} {x : α} (hi : l[i]? = some x) (hj : l[j]? = some x) : i = j := by
  have h1 := ix_lt hi
  have h2 := ix_lt hj
  rw [List.getElem?_eq_getElem h1] at hi
  rw [List.getElem?_eq_getElem h2] at hj
  have e : l[i] = l[j] := by rw [Option.some.inj hi, Option.some.inj hj]
  exact (List.getElem_inj h).mp e
structure WSrc (X : Cx) (H1 : Hp) (vs : List V) (s1 s2 : Shared) (it : Value) : Prop where
  ex : ∃ (I : Addr) (fp wr : List Addr) (P : Nat → Value → Prop) (St : Nat → Heap → Prop), it = .ref I ∧ (∀ A' : Around, A'.handled = none → Walks X.prog X.w A' I fp wr vs.length P St) ∧ (∀ i v, P i v → ∃ x, vs[i]? = some x ∧ RelV x v) ∧ St 0 s2.heap ∧
    (∀ b ∈ fp, b < s2.heap.objs.size) ∧ (∀ b ∈ wr, s1.heap.objs.size ≤ b) ∧ ∀ b ∈ fp, ∀ ps, H1 b ≠ some (.tbl ps)
  grow : ∃ h' tk, s2 = { s1 with heap := h', toks := tk } ∧ (∀ b o, s1.heap.get? b = some o → h'.get? b = some o) ∧ s1.heap.objs.size ≤ h'.objs.size
/-- the scope of a generator expression: .0, the targets, captured names -/
structure GScope (sc scope : Scope) (own : List Str) : Prop where
  kind : scope.kind = .function
  co : scope.isCoroutine = false
  cell : ∀ y ∈ scope.names, y.2 ≠ .cell
  dot : scope.names.lookup (".0" : Str) = some NameKind.local
  loc : ∀ x ∈ own, scope.names.lookup x = some .local
  only : ∀ y ∈ scope.names, y.2 = .local → y.1 = ".0" ∨ y.1 ∈ own
  free : ∀ y ∈ scope.names, y.2 = .free → sc.names.lookup y.1 = some .cell ∨ sc.names.lookup y.1 = some .free
  uniq : ∀ y ∈ scope.names, scope.names.lookup y.1 = some y.2
def gscB (sc scope : Scope) (own : List Str) : Bool :=
  decide (scope.kind = .function) && !scope.isCoroutine && (scope.names.all fun y => !decide (y.2 = .cell) && (!decide (y.2 = .local) || decide (y.1 = ".0") || own.contains y.1) && (!decide (y.2 = .free) || decide (sc.names.lookup y.1 = some .cell) || decide (sc.names.lookup y.1 = some .free)) && decide (scope.names.lookup y.1 = some y.2)) &&
    decide (scope.names.lookup (".0" : Str) = some NameKind.local) && own.all fun x => decide (scope.names.lookup x = some .local)
theorem gsc_by {sc scope : Scope} {own : List Str} (h : gscB sc scope own = true) : GScope sc scope own := by
  unfold gscB at h
  simp only [Bool.and_eq_true, Bool.or_eq_true, Bool.not_eq_true', decide_eq_true_eq, decide_eq_false_iff_not, List.all_eq_true, List.contains_iff_mem] at h
  obtain ⟨⟨⟨⟨h1, h2⟩, h3⟩, h4⟩, h5⟩ := h
  refine ⟨h1, h2, fun y hy => (h3 y hy).1.1.1, h4, h5, fun y hy e => ?_, fun y hy e => ?_, fun y hy => (h3 y hy).2⟩
  · rcases (h3 y hy).1.1.2 with (z | z) | z
    · exact absurd e z
    · exact .inl z
    · exact .inr z
  · rcases (h3 y hy).1.2 with (z | z) | z
    · exact absurd e z
    · exact .inl z
    · exact .inr z
section
variable {B : Bx} {X : Cx}
theorem GScope.has {scope : Scope} {own : List Str} (S : GScope X.env.scope scope own) (ok : X.Ok) : ∀ y ∈ scope.names, y.2 = .free → ∃ c, X.env.cells.lookup y.1 = some c := fun y hy e => by
  rcases S.free y hy e with k | k
  · exact ok.has _ (.inl k)
  · exact ok.has _ (.inr k)
/-- the captured names in the generator's closure -/
theorem clo_at {scope : Scope} {own : List Str} (S : GScope X.env.scope scope own) (ok : X.Ok) {y : Str} (hl : scope.names.lookup y = some .free) : ∃ c, (cloFrom X.env.cells scope.names []).lookup y = some c ∧ X.env.cells.lookup y = some c := by
  have hy : (y, NameKind.free) ∈ scope.names := PySem.mem_of_lookup hl
  obtain ⟨c, hc⟩ := mem_lookup (cloFrom_has (cells := X.env.cells) (acc := []) hy)
  refine ⟨c, hc, ?_⟩
  rcases cloFrom_mem (PySem.mem_of_lookup hc) with hm | ⟨h1, h2⟩
  · cases hm
  · obtain ⟨c1, hc1⟩ := S.has ok _ h1 rfl
    have hc1 : X.env.cells.lookup y = some c1 := hc1
    rw [hc1] at h2
    rw [hc1, h2]
    rfl
/-- what is known of the heap where the element stands -/
theorem qs_at {scope : Scope} {own : List Str} {pins : List (Addr × Obj)} {σ σ' : L2.St} {H1 H3 : Hp} {s1 s : Shared} {cenv : Env} {A' : Around} {P C : Addr} {code : Value} {U : Nat} (hrU : U + 100 < cLine) (S : GScope X.env.scope scope own) (I : Inv X pins σ H1 s1)
    (hce : cenv = genEnv scope (cloFrom X.env.cells scope.names []) C code builtinsNs X.env) (hd : A'.handled = none) (hu : A'.units ≤ U) (hnest : A'.depth ≤ X.A.depth + 4 ∧ A'.units ≤ X.A.units + 90) (hok : HOk X.prog X.w H3 s.heap) (hP : ∃ ps, H1 P = some (.tbl ps))
    (keep : ∀ b o, b ≠ P → s1.heap.get? b = some o → s.heap.get? b = some o) (hbP : ∀ o, X.base.get? P ≠ some o) (hN : X.N.Nodup) (hdot : (".0" : Str) ∉ X.N)
    {m : Str → Option Value} (hn : s.heap.Ns C m) (hown : ∀ (i : Nat) (x : Str) (v : V), X.N[i]? = some x → x ∈ own → σ'[i]? = some (some v) → ∃ u, m x = some u ∧ RelV v u)
    (hoff : ∀ (i : Nat) (x : Str) (v : V), X.N[i]? = some x → x ∉ own → σ'[i]? = some (some v) → σ[i]? = some (some v)) : QS X cenv A' σ' H3 s := by
  subst hce
  refine ⟨hd, by omega, hnest, hok, fun b o e => keep b o (fun z => hbP o (by rw [← z]; exact e)) (I.bk b o e), I.mod, S.kind, I.ok.glob, rfl, m, hn, fun i x v e1 e2 hv => ?_⟩
  by_cases hx : x ∈ own
  · obtain ⟨u, em, ru⟩ := hown i x v e1 hx e2
    exact ⟨u, ru, .inl ⟨S.loc x hx, em⟩⟩
  · have e3 := hoff i x v e1 hx e2
    have hf : scope.names.lookup x = some .free := by
      rcases hv with k | k | k
      · rcases S.only _ (PySem.mem_of_lookup k) rfl with z | z
        · exact absurd (List.mem_of_getElem? e1) (by rw [show x = ".0" from z]; exact hdot)
        · exact absurd z hx
      · exact absurd rfl (S.cell _ (PySem.mem_of_lookup k))
      · exact k
    obtain ⟨cc, h1, h2⟩ := clo_at S I.ok hf
    obtain ⟨m1, _, hl⟩ := I.loc
    have hvis : Vis X.env.scope x := (S.free _ (PySem.mem_of_lookup hf) rfl).elim (fun k => .inr (.inl k)) (fun k => .inr (.inr k))
    obtain ⟨u, ru, l⟩ := hl i x v e1 e3 hvis
    rcases l with ⟨k, _⟩ | ⟨_, c2, hc2, o, ho, hd2⟩
    · have k : X.env.scope.names.lookup x = some .local := k
      rcases S.free _ (PySem.mem_of_lookup hf) rfl with k2 | k2 <;> rw [show X.env.scope.names.lookup x = _ from k2] at k <;> cases k
    · rw [h2] at hc2
      cases hc2
      refine ⟨u, ru, .inr ⟨.inr hf, cc, h1, o, keep cc o (fun z => ?_) ho, hd2⟩⟩
      obtain ⟨ps, hps⟩ := hP
      have := I.freeC x cc h2
      rw [z, hps] at this
      cases this
/-- the tests of a generator expression -/
def QTs (B : Bx) (X : Cx) (scope : Scope) (ifs : List Expr) (qt : QT) : Prop := (ifs = [] ∧ qt = fun _ _ => some true) ∨ ∃ c, ifs = [c] ∧ SQT B X scope c qt
theorem qts_nil {scope : Scope} : QTs B X scope [] (fun _ _ => some true) := .inl ⟨rfl, rfl⟩
theorem qts_one {scope : Scope} {c : Expr} {qt : QT} (h : SQT B X scope c qt) : QTs B X scope [c] qt := .inr ⟨c, rfl, h⟩
theorem qts_run {scope : Scope} {ifs : List Expr} {qt : QT} (h : QTs B X scope ifs qt) {cenv : Env} {A' : Around} {E' : Value → Shared → Prop} {s : Shared} {ρ : List Addr} {F : Hp} {hh : AH} {H : Hp} {sl : Sl} {σ : L2.St} {a : Bool} (es : cenv.scope = scope) (q : QS X cenv A' σ H s) (hr : HR B ρ F hh H) (sr : SR B ρ F sl σ) (e : qt sl hh = some a) :
    wpAny (model X.prog X.w) A' (forIn ifs true fun c r => if r = true then do let ok ← isTrue c cenv (eval c cenv); pure (ForInStep.yield ok) else pure (ForInStep.yield r)) (fun ok s₃ => ok = a ∧ Keeps s s₃) E' s := by
  rcases h with ⟨rfl, rfl⟩ | ⟨c, rfl, h⟩
  · cases e
    simp only [List.forIn_nil]
    exact wpAny_pure ⟨rfl, GxR.keeps_refl _⟩
  · simp only [List.forIn_cons, List.forIn_nil]
    rw [if_pos True.intro]
    refine wpAny_bind (wpAny_bind (thn (h cenv A' _ s ρ F hh H sl σ a es q hr sr e) fun b s1 ⟨r, k⟩ => wpAny_pure ?_))
    exact wpAny_pure ⟨r, k⟩
/-- the generator g, ready to be walked: it gives what ys tells -/
def GReady (B : Bx) (X : Cx) (pins : List (Addr × Obj)) (σ : L2.St) (ρ : List Addr) (F : Hp) (h : AH) (H1 : Hp) (ys : List AV) (g : Addr) (s5 : Shared) : Prop :=
  ∃ (fp wr : List Addr) (G : Array GenState → Array GenState → Prop) (Fv : Nat → Value → Prop) (St : Nat → Shared → Prop),
    WalksS X.prog X.w X.A.in1 g fp wr G ys.length Fv St ∧ St 0 s5 ∧ (∀ b ∈ fp, b < s5.heap.objs.size) ∧ (∀ j y, Fv j y → ∃ a, ys[j]? = some a ∧ QV B ρ F a y) ∧
    ∀ s', Moved wr G s5 s' → ∃ H2, Inv X pins σ H2 s' ∧ HR B ρ F h H2 ∧ Ext ρ F H1 ρ F H2
theorem gen_name {c P : Addr} {elt iter : Expr} {x : Str} {ifs : List Expr} {px gpos : Pos} {scope : Scope} {k i : Nat} {qt : QT} {qe : QE} {Q' : Value → Shared → Prop} {pins : List (Addr × Obj)} {σ : L2.St} {H0 : Hp} {s0 : Shared}
    (hr : Room k X.A) (TB : LamX.TabB X.base X.mg c P) (hcode : X.env.code = .ref c) (hmT : (P, X.env.qual ++ "<genexpr>") ∈ B.T) (huT : ∀ p ∈ B.T, p.1 = P → p.2 = X.env.qual ++ "<genexpr>") (S : GScope X.env.scope scope [x]) (hN : X.N.Nodup) (hi : X.N[i]? = some x) (hdot : (".0" : Str) ∉ X.N)
    (hts : QTs B X scope ifs qt) (hel : SQ B X scope elt qe) (hs : ∀ v, genFold iter X.env v = pure v) (I0 : Inv X pins σ H0 s0)
    (hiter : wpAny (model X.prog X.w) X.A (eval iter X.env) (fun xv s1 => ∃ ρ F h H1 sl xs vs, Inv X pins σ H1 s1 ∧ SR B ρ F sl σ ∧ HR B ρ F h H1 ∧ RVs B ρ F xs vs ∧ itemsOk xs (fun a => qt (sl.set i (some a)) h) (fun a => qe (sl.set i (some a)) h) = true ∧
      wpAny (model X.prog X.w) X.A (pyIter xv) (fun it s2 => WSrc X H1 vs s1 s2 it) X.xe s1 ∧ ∀ g s5, GReady B X pins σ ρ F h H1 (xs.filterMap (itemG (fun a => qt (sl.set i (some a)) h) (fun a => qe (sl.set i (some a)) h))) g s5 → Q' (.ref g) s5) X.xe s0) :
    wpAny (model X.prog X.w) X.A (eval (.GeneratorExp elt [⟨.Name x px, iter, ifs, 0⟩] scope gpos) X.env) Q' X.xe s0 := by
  refine wpAny_GeneratorExp_walksQD hr.hd S.co (closure_ok (S.has I0.ok)) S.cell S.dot (S.loc x (by simp)) S.kind (by have := hr.dp; omega) ?_ hs
  refine thn hiter fun xv s1 ⟨ρ, F, h, H1, sl, xs, vs, I1, sr, hR, rvs, hok, hpi, hQ⟩ => ?_
  refine thn hpi fun it s2 W => ?_
  obtain ⟨Ia, fp, wr, Pw, St, eit, hW, hPw, hst, hfp, hwr, hnt⟩ := W.ex
  obtain ⟨h2, tk2, es2, grow, hsz12⟩ := W.grow
  subst es2
  have lim2 : h2.NoLimit := I1.nolimit.keeps grow
  obtain ⟨ps, hP, ht, ha⟩ := hR.tab _ hmT
  have hbP : ∀ o, X.base.get? P ≠ some o := fun o e => by
    have z := (I1.bs P o e).2
    rw [hP] at z
    cases z
  have hPs : s1.heap.get? P = some { cls := .none, data := .fields ps } := I1.hok P _ hP
  have hPlt : P < s1.heap.objs.size := Heap.lt_size hPs
  have hP2 : h2.get? P = some { cls := .none, data := .fields ps } := grow _ _ hPs
  have cd : PySem.W.CodeHd h2 c P := TB.code.keeps fun b u e => grow _ _ (I1.bk b u e)
  have hlen := RVs.length rvs
  have hwr2 : ∀ b ∈ wr, b < h2.objs.size := fun b hb => hfp b ((hW X.A hr.hd).sub b hb)
  have nwr : ∀ b o, s1.heap.get? b = some o → b ∉ wr := fun b o e hb => absurd (Heap.lt_size e) (Nat.not_lt.mpr (hwr b hb))
  have cont : ∀ (code : Value) (h3 : Heap) (tk : Nat) (H3 : Hp) (cc : Addr), (∀ b o, b ≠ P → h2.get? b = some o → h3.get? b = some o) → h2.objs.size ≤ h3.objs.size → cc ∉ wr → cc < h3.objs.size → h3.NoLimit → LamX.ExtN H1 H3 → LamX.Tabs B.T H3 →
      (∀ (hh : Heap) (tk' : Nat), (∀ b o, b ≠ P → s1.heap.get? b = some o → hh.get? b = some o) → (∀ b o, (b = P ∨ b = cc) → h3.get? b = some o → hh.get? b = some o) → ∃ psx, H3 P = some (.tbl psx) ∧ hh.get? P = some { cls := .none, data := .fields psx } ∧ Inv X pins σ H3 { s1 with heap := hh, toks := tk' }) →
      wpAny (model X.prog X.w) X.A (builtinsFor X.env.globals X.env.builtins) (fun bi s₄ =>
        ∃ Ia fp wr n₀ Pf St₀ pz F, it = .ref Ia ∧ (∀ A' : Around, A'.handled = none → Walks X.prog X.w A' Ia fp wr n₀ Pf St₀) ∧ St₀ 0 s₄.heap ∧ (∀ b ∈ fp, b < s₄.heap.objs.size) ∧ s₄.heap.NoLimit ∧ cStatics ∉ wr ∧
          (∀ href : Heap, (∀ b o, s₄.heap.get? b = some o → href.get? b = some o) →
            QuietGenD X.prog X.w (genEnv scope (cloFrom X.env.cells scope.names []) s₄.heap.objs.size code bi X.env) x ifs elt (List.range s₄.heap.objs.size) wr Pf pz F href (X.A.depth + 1) (X.A.units + 8)) ∧
          (∀ a h₅ tk gs, gs.bare = true → s₄.heap.objs.size < a → h₅.objs.size = a + 1 → (∀ b o, s₄.heap.get? b = some o → h₅.get? b = some o) →
            WalksS X.prog X.w X.A.in4 a (a :: s₄.heap.objs.size :: List.range s₄.heap.objs.size) (s₄.heap.objs.size :: wr) (GenOnlyQ s₄.gens.size) (passing pz n₀ 0).length
              (fun j y => ∃ i, (passing pz n₀ 0)[j]? = some i ∧ F i y) (GenAt X.prog X.w X.A.in4 a s₄.gens.size s₄.heap.objs.size (List.range s₄.heap.objs.size) wr pz n₀ F) →
            GenAt X.prog X.w X.A.in4 a s₄.gens.size s₄.heap.objs.size (List.range s₄.heap.objs.size) wr pz n₀ F 0 { s₄ with gens := s₄.gens.push gs, toks := tk, heap := h₅ } →
            Q' (.ref a) { s₄ with gens := s₄.gens.push gs, toks := tk, heap := h₅ })) X.xe { s1 with heap := h3, toks := tk } := by
    intro code h3 tk H3 cc hx hsz hccw hccl lim3 e3 t3 jinv
    obtain ⟨bm, ob, e1, e2, e3', e4, e5, e6, e7, e8⟩ := TB.bm
    have keep3 : ∀ b u, b ≠ P → s1.heap.get? b = some u → h3.get? b = some u := fun b u hb e => hx b u hb (grow _ _ e)
    obtain ⟨hR3, eX⟩ := hR.tabbed e3 t3
    have hcl : cStatics < s1.heap.objs.size := let ⟨_, hns, _⟩ := I1.nolimit; hns.lt
    refine wpAny_builtinsFor (m := X.mg) (by rw [I1.ok.glob]; exact ((I1.mod.glob.keeps I1.bk).keeps grow).extBut (fun b o hb e => hx b o hb e) TB.gP) e1 e2 (keep3 _ _ e4 (I1.bk _ _ e5)) e6 e7 e8 ?_
    refine ⟨Ia, fp, wr, vs.length, Pw, St, pzOf xs (fun a => qt (sl.set i (some a)) h), (fun j y => ∃ x0 a, xs[j]? = some x0 ∧ qe (sl.set i (some x0)) h = some a ∧ QV B ρ F a y), eit, hW, ?_, fun b hb => Nat.lt_of_lt_of_le (hfp b hb) hsz, lim3, fun z => absurd hcl (Nat.not_lt.mpr (hwr _ z)), ?_, ?_⟩
    · refine (hW X.A hr.hd).frame _ _ _ hst fun b hb u e => ?_
      exact hx b u (fun z => hnt b hb ps (by rw [z]; exact hP)) e
    · intro href hhref
      have key : ∀ (A' : Around) (iN : Nat) (v : Value) (s₂ : Shared) (m₂ : Str → Option Value), A'.handled = none → A'.depth ≤ X.A.depth + 1 → A'.units ≤ X.A.units + 8 → Pw iN v → s₂.heap.Ns h3.objs.size m₂ → m₂ x = some v → (∀ b ∈ List.range h3.objs.size, b ∉ wr → ∀ o, href.get? b = some o → s₂.heap.get? b = some o) →
          ∃ x0 w, xs[iN]? = some x0 ∧ RV B ρ F x0 w ∧ QS X (genEnv scope (cloFrom X.env.cells scope.names []) h3.objs.size code builtinsNs X.env) A' (σ.set i (some w)) H3 s₂ ∧ SR B ρ F (sl.set i (some x0)) (σ.set i (some w)) := fun A' iN v s₂ m₂ hA hdp hu hp hn hm hk => by
        obtain ⟨w, ew, rw'⟩ := hPw iN v hp
        obtain ⟨x0, ex0, rx0⟩ := rvs.at' ew
        have kp : ∀ b o, h3.get? b = some o → b ∉ wr → s₂.heap.get? b = some o := fun b o e hb => hk b (List.mem_range.mpr (Heap.lt_size e)) hb o (hhref b o e)
        have kp1 : ∀ b o, b ≠ P → s1.heap.get? b = some o → s₂.heap.get? b = some o := fun b o hb e => kp b o (keep3 b o hb e) (nwr b o e)
        obtain ⟨psx, _, _, J⟩ := jinv s₂.heap s1.toks kp1 fun b o hb e => kp b o e (by
          rcases hb with rfl | rfl
          · exact nwr _ _ hPs
          · exact hccw)
        refine ⟨x0, w, ex0, rx0, qs_at (own := [x]) (U := X.A.units + 8) (by have := hr.un; omega) S I1 rfl hA hu (by omega) J.hok ⟨ps, hP⟩ kp1 hbP hN hdot hn (fun j y u ej hy eu => ?_) (fun j y u ej hy eu => ?_), sr.set rx0 i⟩
        · obtain rfl : y = x := by simpa using hy
          have hji : j = i := nd_at hN ej hi
          subst hji
          have hl : j < σ.length := by
            rw [← List.length_set (as := σ) (i := j) (a := some w)]
            exact ix_lt eu
          rw [List.getElem?_set_self hl] at eu
          cases eu
          exact ⟨v, hm, rw'⟩
        · have hji : i ≠ j := fun z => hy (by subst z; rw [hi] at ej; cases ej; simp)
          rw [List.getElem?_set_ne hji] at eu
          exact eu
      refine ⟨fun A' E' iN v s₂ m₂ hA hdp hu hp hn hm hk => ?_, fun A' E' iN v s₂ m₂ hA hdp hu hp hpz hn hm hk => ?_⟩
      · obtain ⟨x0, w, ex0, rx0, q, sr2⟩ := key A' iN v s₂ m₂ hA hdp hu hp hn hm hk
        have hx0 := List.all_eq_true.mp hok x0 (List.mem_of_getElem? ex0)
        cases kt : qt (sl.set i (some x0)) h with
        | none => simp only [kt] at hx0; cases hx0
        | some b =>
          have ep : pzOf xs (fun a => qt (sl.set i (some a)) h) iN = b := by
            unfold pzOf
            rw [ex0]
            show decide (qt (sl.set i (some x0)) h = some true) = b
            rw [kt]
            cases b <;> rfl
          rw [ep]
          exact qts_run hts rfl q hR3 sr2 kt
      · obtain ⟨x0, w, ex0, rx0, q, sr2⟩ := key A' iN v s₂ m₂ hA hdp hu hp hn hm hk
        have hx0 := List.all_eq_true.mp hok x0 (List.mem_of_getElem? ex0)
        have ep : qt (sl.set i (some x0)) h = some true := by
          unfold pzOf at hpz
          rw [ex0] at hpz
          exact of_decide_eq_true hpz
        simp only [ep] at hx0
        obtain ⟨a, ea⟩ := Option.isSome_iff_exists.mp hx0
        exact thn (hel _ A' _ s₂ ρ F h H3 _ _ a rfl q hR3 sr2 ea) fun y s3 ⟨r1, k1⟩ => ⟨⟨x0, a, ex0, ea, r1⟩, k1⟩
    · intro g h5 tk5 gs hgb hag hsz5 hk5 W5 hat
      have hpass := items_pass xs (fun a => qt (sl.set i (some a)) h) (fun a => qe (sl.set i (some a)) h) hok (List.range xs.length) fun j hj => List.mem_range.mp hj
      rw [filterMap_ix] at hpass
      have epass : passing (pzOf xs (fun a => qt (sl.set i (some a)) h)) vs.length 0 = (List.range xs.length).filter (pzOf xs (fun a => qt (sl.set i (some a)) h)) := by
        unfold passing
        rw [List.drop_zero, hlen]
      rw [epass] at W5
      rw [← hpass.1] at W5
      refine hQ g _ ⟨_, _, _, _, _, W5.in4_1, hat, ?_, ?_, fun s' hm => ?_⟩
      · intro b hb
        show b < h5.objs.size
        rw [hsz5]
        rcases List.mem_cons.mp hb with z | hb
        · rw [z]; exact Nat.lt_succ_self _
        · rcases List.mem_cons.mp hb with z | hb
          · rw [z]; exact Nat.lt_succ_of_lt hag
          · exact Nat.lt_succ_of_lt (Nat.lt_trans (List.mem_range.mp hb) hag)
      · rintro j y ⟨ii, e9, x0, a, ex0, ea, qa⟩
        obtain ⟨x1, a1, q1, q2, q3, q4⟩ := hpass.2 j ii e9
        rw [ex0] at q1
        cases q1
        have q3 : qe (sl.set i (some x0)) h = some a1 := q3
        rw [q3] at ea
        cases ea
        exact ⟨a, q4, qa⟩
      · have kk : ∀ b o, h3.get? b = some o → b ∉ wr → s'.heap.get? b = some o := fun b o e hb => hm.heap b o (fun z => by
          rcases List.mem_cons.mp z with z | z
          · have hl := Heap.lt_size e
            rw [z] at hl
            exact Nat.lt_irrefl _ hl
          · exact hb z) (hk5 b o e)
        obtain ⟨psx, hPx, hPh, J⟩ := jinv s'.heap s'.toks (fun b o hb e => kk b o (keep3 b o hb e) (nwr b o e)) fun b o hb e => kk b o e (by
          rcases hb with rfl | rfl
          · exact nwr _ _ hPs
          · exact hccw)
        have J2 := GxR.inv_tab (more := #[]) (h' := s'.heap) (g' := s'.gens) (d' := s'.drawn) (t' := s'.toks) J hPx (fun b u _ e => e) (by rw [Array.append_empty]; exact hPh) (AllBare.movedS (I1.bare.push hgb) hm)
        have eH : upd H3 P (.tbl (psx ++ #[])) = H3 := funext fun b => by
          by_cases hb : b = P
          · rw [hb, upd_same, hPx, Array.append_empty]
          · rw [upd_ne hb]
        rw [eH] at J2
        have J3 : Inv X pins σ H3 s' := by
          have e9 := GxR.sh_eta { s1 with heap := s'.heap, toks := s'.toks } s' hm.os
          exact e9 ▸ J2
        exact ⟨H3, J3, hR3, eX⟩
  refine ⟨lim2, ?_⟩
  have hcP : cStatics ≠ P := fun e => by
    obtain ⟨_, hns, _⟩ := I1.nolimit
    obtain ⟨o', es, ep, ho, hd, _⟩ := hns
    rw [e, hPs] at ho
    cases ho
    cases hd
  cases hf : codeAmong gpos ps.toList with
  | none =>
    refine wpAny_genexprCodeX hcode (cd.code hP2 ht) (cd.tab hP2) hf fun c' h' tk hx hge hlt hco' hrec htab' _ => ?_
    obtain ⟨c2, oc, vs', t, e2, hoc, hd, hv⟩ := hrec
    cases e2
    have nC : H1 c' = none := I1.hok.fresh (Nat.le_trans hsz12 hge)
    have eL : (ps ++ #[rawInt gpos.line, rawInt gpos.col, .ref c']).toList = ps.toList ++ [rawInt gpos.line, rawInt gpos.col, .ref c'] := by simp
    have hE : LamX.ExtN H1 (upd (upd H1 P (.tbl (ps ++ #[rawInt gpos.line, rawInt gpos.col, .ref c']))) c' (LamX.CodeO c' (X.env.qual ++ "<genexpr>"))) := fun b o e n => by
      rw [upd_ne (ne_of_none e nC), upd_ne (fun z => n ps (Option.some.inj (e.symm.trans (by rw [z]; exact hP))))]
      exact e
    refine cont _ h' tk _ c' hx (Nat.le_trans hge (Nat.le_of_lt hlt)) (fun z => absurd (hwr2 _ z) (Nat.not_lt.mpr hge)) hlt (lim2.extBut hx hcP) hE (fun p hp => ?_) fun hh tk' k1 k2 => ?_
    · by_cases hb : p.1 = P
      · rw [huT p hp hb, hb]
        refine ⟨_, by rw [upd_ne (ne_of_none hP nC), upd_same], by rw [eL]; exact PySem.TriplesOk_snoc _ _ _ _ ht, fun p' cv hcv => ?_⟩
        rw [eL] at hcv
        rcases LamX.among_app _ ht hcv with z | z
        · obtain ⟨c0, e1, e2⟩ := ha p' cv z
          exact ⟨c0, e1, hE _ _ e2 LamX.codeO_ne⟩
        · exact ⟨c', z, upd_same⟩
      · obtain ⟨ps', a1, a2, a3⟩ := hR.tab p hp
        refine ⟨ps', by rw [upd_ne (ne_of_none a1 nC), upd_ne hb]; exact a1, a2, fun p' cv hcv => ?_⟩
        obtain ⟨c0, e1, e2⟩ := a3 p' cv hcv
        exact ⟨c0, e1, hE _ _ e2 LamX.codeO_ne⟩
    · have hPh := k2 P _ (.inl rfl) htab'.2
      exact ⟨_, by rw [upd_ne (ne_of_none hP nC), upd_same], hPh, LamX.inv_table (q := X.env.qual ++ "<genexpr>") I1 hP k1 hPh (Nat.le_trans hsz12 hge) ⟨oc, vs', t, k2 _ _ (.inr rfl) hoc, hd, hv⟩⟩
  | some cv =>
    refine wpAny_genexprCode_hit hcode (cd.code hP2 ht) hf ?_
    refine cont cv h2 tk2 H1 P (fun _ _ _ e => e) (Nat.le_refl _) (nwr _ _ hPs) (Nat.lt_of_lt_of_le hPlt hsz12) lim2 (LamX.ExtN.refl H1) hR.tab fun hh tk' k1 k2 => ?_
    have kall : ∀ b o, s1.heap.get? b = some o → hh.get? b = some o := fun b o e => by
      by_cases hb : b = P
      · subst hb; exact k2 _ _ (.inl rfl) (grow _ _ e)
      · exact k1 b o hb e
    exact ⟨ps, hP, kall _ _ hPs, I1.kept kall⟩
end
end NC
end S3
end
section
set_option Elab.async false
set_option linter.all false
set_option maxRecDepth 100000
set_option maxHeartbeats 4000000
namespace S3
open PySem PySem.Spec PyProof.Rows L2
noncomputable section NC
section
variable {B : Bx} {X : Cx}
/-- a pair as a tuple of two -/
def pairA : AV → Option (AV × AV)
  | .tup [a, b] => some (a, b)
  | .rdt [a, b] => some (a, b)
  | _ => none
def RPs (B : Bx) (ρ : List Addr) (F : Hp) (xs : List AV) (vs : List (V × V)) : Prop := xs.length = vs.length ∧ ∀ (i : Nat) (y z : V), vs[i]? = some (y, z) → ∃ x p, xs[i]? = some x ∧ pairA x = some p ∧ RV B ρ F p.1 y ∧ RV B ρ F p.2 z
structure WSrcU (X : Cx) (H1 : Hp) (vs : List (V × V)) (s1 s2 : Shared) (it : Value) : Prop where
  ex : ∃ (I : Addr) (fp wr : List Addr) (P : Nat → Array Value → Prop) (St : Nat → Heap → Prop) (Mid : Nat → Addr → Heap → Prop), it = .ref I ∧ (∀ A' : Around, A'.handled = none → WalksU X.prog X.w A' I fp wr vs.length P St Mid) ∧ (∀ i vals, P i vals → ∃ va vb y z, vals = #[va, vb] ∧ vs[i]? = some (y, z) ∧ RelV y va ∧ RelV z vb) ∧ St 0 s2.heap ∧
    (∀ b ∈ fp, b < s2.heap.objs.size) ∧ (∀ b ∈ wr, s1.heap.objs.size ≤ b) ∧ ∀ b ∈ fp, ∀ ps, H1 b ≠ some (.tbl ps)
  grow : ∃ h' tk, s2 = { s1 with heap := h', toks := tk } ∧ (∀ b o, s1.heap.get? b = some o → h'.get? b = some o) ∧ s1.heap.objs.size ≤ h'.objs.size
theorem gen_pair {c P : Addr} {elt iter : Expr} {x x' : Str} {ifs : List Expr} {px px' pt gpos : Pos} {kt : Nat} {scope : Scope} {k i i' : Nat} {qt : QT} {qe : QE} {Q' : Value → Shared → Prop} {pins : List (Addr × Obj)} {σ : L2.St} {H0 : Hp} {s0 : Shared}
    (hr : Room k X.A) (TB : LamX.TabB X.base X.mg c P) (hcode : X.env.code = .ref c) (hmT : (P, X.env.qual ++ "<genexpr>") ∈ B.T) (huT : ∀ p ∈ B.T, p.1 = P → p.2 = X.env.qual ++ "<genexpr>") (S : GScope X.env.scope scope [x, x']) (hN : X.N.Nodup) (hi : X.N[i]? = some x) (hi' : X.N[i']? = some x') (hxx : x ≠ x') (hdot : (".0" : Str) ∉ X.N)
    (hts : QTs B X scope ifs qt) (hel : SQ B X scope elt qe) (hs : ∀ v, genFold iter X.env v = pure v) (I0 : Inv X pins σ H0 s0)
    (hiter : wpAny (model X.prog X.w) X.A (eval iter X.env) (fun xv s1 => ∃ ρ F h H1 sl xs vs, Inv X pins σ H1 s1 ∧ SR B ρ F sl σ ∧ HR B ρ F h H1 ∧ RPs B ρ F xs vs ∧ itemsOk xs (fun y => (pairA y).bind fun p => qt ((sl.set i (some p.1)).set i' (some p.2)) h) (fun y => (pairA y).bind fun p => qe ((sl.set i (some p.1)).set i' (some p.2)) h) = true ∧
      wpAny (model X.prog X.w) X.A (pyIter xv) (fun it s2 => WSrcU X H1 vs s1 s2 it) X.xe s1 ∧ ∀ g s5, GReady B X pins σ ρ F h H1 (xs.filterMap (itemG (fun y => (pairA y).bind fun p => qt ((sl.set i (some p.1)).set i' (some p.2)) h) (fun y => (pairA y).bind fun p => qe ((sl.set i (some p.1)).set i' (some p.2)) h))) g s5 → Q' (.ref g) s5) X.xe s0) :
    wpAny (model X.prog X.w) X.A (eval (.GeneratorExp elt [⟨.Tuple [.Name x px, .Name x' px'] kt pt, iter, ifs, 0⟩] scope gpos) X.env) Q' X.xe s0 := by
  refine wpAny_GeneratorExp_walksQTD hr.hd S.co (closure_ok (S.has I0.ok)) S.cell S.dot (S.loc x (by simp)) (S.loc x' (by simp)) hxx S.kind (by have := hr.dp; omega) ?_ hs
  refine thn hiter fun xv s1 ⟨ρ, F, h, H1, sl, xs, vs, I1, sr, hR, rvs, hok, hpi, hQ⟩ => ?_
  refine thn hpi fun it s2 W => ?_
  obtain ⟨Ia, fp, wr, Pw, St, Mid, eit, hW, hPw, hst, hfp, hwr, hnt⟩ := W.ex
  obtain ⟨h2, tk2, es2, grow, hsz12⟩ := W.grow
  subst es2
  have lim2 : h2.NoLimit := I1.nolimit.keeps grow
  obtain ⟨ps, hP, ht, ha⟩ := hR.tab _ hmT
  have hbP : ∀ o, X.base.get? P ≠ some o := fun o e => by
    have z := (I1.bs P o e).2
    rw [hP] at z
    cases z
  have hPs : s1.heap.get? P = some { cls := .none, data := .fields ps } := I1.hok P _ hP
  have hPlt : P < s1.heap.objs.size := Heap.lt_size hPs
  have hP2 : h2.get? P = some { cls := .none, data := .fields ps } := grow _ _ hPs
  have cd : PySem.W.CodeHd h2 c P := TB.code.keeps fun b u e => grow _ _ (I1.bk b u e)
  have hlen := rvs.1
  have hwr2 : ∀ b ∈ wr, b < h2.objs.size := fun b hb => hfp b ((hW X.A hr.hd).sub b hb)
  have nwr : ∀ b o, s1.heap.get? b = some o → b ∉ wr := fun b o e hb => absurd (Heap.lt_size e) (Nat.not_lt.mpr (hwr b hb))
  have cont : ∀ (code : Value) (h3 : Heap) (tk : Nat) (H3 : Hp) (cc : Addr), (∀ b o, b ≠ P → h2.get? b = some o → h3.get? b = some o) → h2.objs.size ≤ h3.objs.size → cc ∉ wr → cc < h3.objs.size → h3.NoLimit → LamX.ExtN H1 H3 → LamX.Tabs B.T H3 →
      (∀ (hh : Heap) (tk' : Nat), (∀ b o, b ≠ P → s1.heap.get? b = some o → hh.get? b = some o) → (∀ b o, (b = P ∨ b = cc) → h3.get? b = some o → hh.get? b = some o) → ∃ psx, H3 P = some (.tbl psx) ∧ hh.get? P = some { cls := .none, data := .fields psx } ∧ Inv X pins σ H3 { s1 with heap := hh, toks := tk' }) →
      wpAny (model X.prog X.w) X.A (builtinsFor X.env.globals X.env.builtins) (fun bi s₄ =>
        ∃ Ia fp wr n₀ Pf St₀ Mid pz F, it = .ref Ia ∧ (∀ A' : Around, A'.handled = none → WalksU X.prog X.w A' Ia fp wr n₀ Pf St₀ Mid) ∧ (∀ i vals, Pf i vals → ∃ va vb, vals = #[va, vb]) ∧ St₀ 0 s₄.heap ∧ (∀ b ∈ fp, b < s₄.heap.objs.size) ∧ s₄.heap.NoLimit ∧ cStatics ∉ wr ∧
          (∀ href : Heap, (∀ b o, s₄.heap.get? b = some o → href.get? b = some o) →
            QuietGenTD X.prog X.w (genEnv scope (cloFrom X.env.cells scope.names []) s₄.heap.objs.size code bi X.env) x x' ifs elt (List.range s₄.heap.objs.size) wr Pf pz F href (X.A.depth + 1) (X.A.units + 8)) ∧
          (∀ a h₅ tk gs, gs.bare = true → s₄.heap.objs.size < a → h₅.objs.size = a + 1 → (∀ b o, s₄.heap.get? b = some o → h₅.get? b = some o) →
            WalksS X.prog X.w X.A.in4 a (a :: s₄.heap.objs.size :: List.range s₄.heap.objs.size) (s₄.heap.objs.size :: wr) (GenOnlyQ s₄.gens.size) (passing pz n₀ 0).length
              (fun j y => ∃ i, (passing pz n₀ 0)[j]? = some i ∧ F i y) (GenAt X.prog X.w X.A.in4 a s₄.gens.size s₄.heap.objs.size (List.range s₄.heap.objs.size) wr pz n₀ F) →
            GenAt X.prog X.w X.A.in4 a s₄.gens.size s₄.heap.objs.size (List.range s₄.heap.objs.size) wr pz n₀ F 0 { s₄ with gens := s₄.gens.push gs, toks := tk, heap := h₅ } →
            Q' (.ref a) { s₄ with gens := s₄.gens.push gs, toks := tk, heap := h₅ })) X.xe { s1 with heap := h3, toks := tk } := by
    intro code h3 tk H3 cc hx hsz hccw hccl lim3 e3 t3 jinv
    obtain ⟨bm, ob, e1, e2, e3', e4, e5, e6, e7, e8⟩ := TB.bm
    have keep3 : ∀ b u, b ≠ P → s1.heap.get? b = some u → h3.get? b = some u := fun b u hb e => hx b u hb (grow _ _ e)
    obtain ⟨hR3, eX⟩ := hR.tabbed e3 t3
    have hcl : cStatics < s1.heap.objs.size := let ⟨_, hns, _⟩ := I1.nolimit; hns.lt
    refine wpAny_builtinsFor (m := X.mg) (by rw [I1.ok.glob]; exact ((I1.mod.glob.keeps I1.bk).keeps grow).extBut (fun b o hb e => hx b o hb e) TB.gP) e1 e2 (keep3 _ _ e4 (I1.bk _ _ e5)) e6 e7 e8 ?_
    refine ⟨Ia, fp, wr, vs.length, Pw, St, Mid, pzOf xs (fun y => (pairA y).bind fun p => qt ((sl.set i (some p.1)).set i' (some p.2)) h), (fun j y => ∃ x0 a, xs[j]? = some x0 ∧ (fun y => (pairA y).bind fun p => qe ((sl.set i (some p.1)).set i' (some p.2)) h) x0 = some a ∧ QV B ρ F a y), eit, hW, (fun iN vals hp => by obtain ⟨va, vb, _, _, e, _⟩ := hPw iN vals hp; exact ⟨va, vb, e⟩), ?_, fun b hb => Nat.lt_of_lt_of_le (hfp b hb) hsz, lim3, fun z => absurd hcl (Nat.not_lt.mpr (hwr _ z)), ?_, ?_⟩
    · refine (hW X.A hr.hd).frame _ _ _ hst fun b hb u e => ?_
      exact hx b u (fun z => hnt b hb ps (by rw [z]; exact hP)) e
    · intro href hhref
      have key : ∀ (A' : Around) (iN : Nat) (v v' : Value) (s₂ : Shared) (m₂ : Str → Option Value), A'.handled = none → A'.depth ≤ X.A.depth + 1 → A'.units ≤ X.A.units + 8 → Pw iN #[v, v'] → s₂.heap.Ns h3.objs.size m₂ → m₂ x = some v → m₂ x' = some v' → (∀ b ∈ List.range h3.objs.size, b ∉ wr → ∀ o, href.get? b = some o → s₂.heap.get? b = some o) →
          ∃ x0 p w w', xs[iN]? = some x0 ∧ pairA x0 = some p ∧ QS X (genEnv scope (cloFrom X.env.cells scope.names []) h3.objs.size code builtinsNs X.env) A' ((σ.set i (some w)).set i' (some w')) H3 s₂ ∧ SR B ρ F ((sl.set i (some p.1)).set i' (some p.2)) ((σ.set i (some w)).set i' (some w')) := fun A' iN v v' s₂ m₂ hA hdp hu hp hn hm hm' hk => by
        obtain ⟨v0, v0', w, w', ev, ew, rw', rw2⟩ := hPw iN _ hp
        obtain ⟨rfl, rfl⟩ : v = v0 ∧ v' = v0' := by simpa using ev
        obtain ⟨x0, p, ex0, ep0, rx0, rx1⟩ := rvs.2 iN w w' ew
        have kp : ∀ b o, h3.get? b = some o → b ∉ wr → s₂.heap.get? b = some o := fun b o e hb => hk b (List.mem_range.mpr (Heap.lt_size e)) hb o (hhref b o e)
        have kp1 : ∀ b o, b ≠ P → s1.heap.get? b = some o → s₂.heap.get? b = some o := fun b o hb e => kp b o (keep3 b o hb e) (nwr b o e)
        obtain ⟨psx, _, _, J⟩ := jinv s₂.heap s1.toks kp1 fun b o hb e => kp b o e (by
          rcases hb with rfl | rfl
          · exact nwr _ _ hPs
          · exact hccw)
        refine ⟨x0, p, w, w', ex0, ep0, qs_at (own := [x, x']) (U := X.A.units + 8) (by have := hr.un; omega) S I1 rfl hA hu (by omega) J.hok ⟨ps, hP⟩ kp1 hbP hN hdot hn (fun j y u ej hy eu => ?_) (fun j y u ej hy eu => ?_), (sr.set rx0 i).set rx1 i'⟩
        · have hl : j < σ.length := by
            have := ix_lt eu
            rw [List.length_set, List.length_set] at this
            exact this
          rcases List.mem_cons.mp hy with z | z
          · subst z
            have hji : j = i := nd_at hN ej hi
            subst hji
            have hne : i' ≠ j := fun z => hxx (by rw [z, hi] at hi'; exact Option.some.inj hi')
            rw [List.getElem?_set_ne hne, List.getElem?_set_self hl] at eu
            cases eu
            exact ⟨v, hm, rw'⟩
          · obtain rfl : y = x' := by simpa using z
            have hji : j = i' := nd_at hN ej hi'
            subst hji
            rw [List.getElem?_set_self (by rw [List.length_set]; exact hl)] at eu
            cases eu
            exact ⟨v', hm', rw2⟩
        · have hji : i ≠ j := fun z => hy (by subst z; rw [hi] at ej; cases ej; simp)
          have hji' : i' ≠ j := fun z => hy (by subst z; rw [hi'] at ej; cases ej; simp)
          rw [List.getElem?_set_ne hji', List.getElem?_set_ne hji] at eu
          exact eu
      refine ⟨fun A' E' iN v v' s₂ m₂ hA hdp hu hp hn hm hm' hk => ?_, fun A' E' iN v v' s₂ m₂ hA hdp hu hp hpz hn hm hm' hk => ?_⟩
      · obtain ⟨x0, p, w, w', ex0, ep0, q, sr2⟩ := key A' iN v v' s₂ m₂ hA hdp hu hp hn hm hm' hk
        have hx0 := List.all_eq_true.mp hok x0 (List.mem_of_getElem? ex0)
        simp only [ep0, Option.bind_some] at hx0
        cases kt : qt ((sl.set i (some p.1)).set i' (some p.2)) h with
        | none => simp only [kt] at hx0; cases hx0
        | some b =>
          have ep : pzOf xs (fun y => (pairA y).bind fun p => qt ((sl.set i (some p.1)).set i' (some p.2)) h) iN = b := by
            unfold pzOf
            rw [ex0]
            show decide (((pairA x0).bind fun p => qt ((sl.set i (some p.1)).set i' (some p.2)) h) = some true) = b
            rw [ep0, Option.bind_some, kt]
            cases b <;> rfl
          rw [ep]
          exact qts_run hts rfl q hR3 sr2 kt
      · obtain ⟨x0, p, w, w', ex0, ep0, q, sr2⟩ := key A' iN v v' s₂ m₂ hA hdp hu hp hn hm hm' hk
        have hx0 := List.all_eq_true.mp hok x0 (List.mem_of_getElem? ex0)
        have ep : qt ((sl.set i (some p.1)).set i' (some p.2)) h = some true := by
          unfold pzOf at hpz
          rw [ex0] at hpz
          have z : ((pairA x0).bind fun p => qt ((sl.set i (some p.1)).set i' (some p.2)) h) = some true := of_decide_eq_true hpz
          rw [ep0, Option.bind_some] at z
          exact z
        simp only [ep0, Option.bind_some, ep] at hx0
        obtain ⟨a, ea⟩ := Option.isSome_iff_exists.mp hx0
        exact thn (hel _ A' _ s₂ ρ F h H3 _ _ a rfl q hR3 sr2 ea) fun y s3 ⟨r1, k1⟩ => ⟨⟨x0, a, ex0, by show ((pairA x0).bind fun p => qe ((sl.set i (some p.1)).set i' (some p.2)) h) = some a; rw [ep0, Option.bind_some]; exact ea, r1⟩, k1⟩
    · intro g h5 tk5 gs hgb hag hsz5 hk5 W5 hat
      have hpass := items_pass xs (fun y => (pairA y).bind fun p => qt ((sl.set i (some p.1)).set i' (some p.2)) h) (fun y => (pairA y).bind fun p => qe ((sl.set i (some p.1)).set i' (some p.2)) h) hok (List.range xs.length) fun j hj => List.mem_range.mp hj
      rw [filterMap_ix] at hpass
      have epass : passing (pzOf xs (fun y => (pairA y).bind fun p => qt ((sl.set i (some p.1)).set i' (some p.2)) h)) vs.length 0 = (List.range xs.length).filter (pzOf xs (fun y => (pairA y).bind fun p => qt ((sl.set i (some p.1)).set i' (some p.2)) h)) := by
        unfold passing
        rw [List.drop_zero, hlen]
      rw [epass] at W5
      rw [← hpass.1] at W5
      refine hQ g _ ⟨_, _, _, _, _, W5.in4_1, hat, ?_, ?_, fun s' hm => ?_⟩
      · intro b hb
        show b < h5.objs.size
        rw [hsz5]
        rcases List.mem_cons.mp hb with z | hb
        · rw [z]; exact Nat.lt_succ_self _
        · rcases List.mem_cons.mp hb with z | hb
          · rw [z]; exact Nat.lt_succ_of_lt hag
          · exact Nat.lt_succ_of_lt (Nat.lt_trans (List.mem_range.mp hb) hag)
      · rintro j y ⟨ii, e9, x0, a, ex0, ea, qa⟩
        obtain ⟨x1, a1, q1, q2, q3, q4⟩ := hpass.2 j ii e9
        rw [ex0] at q1
        cases q1
        have q3 : (fun y => (pairA y).bind fun p => qe ((sl.set i (some p.1)).set i' (some p.2)) h) x0 = some a1 := q3
        rw [q3] at ea
        cases ea
        exact ⟨a, q4, qa⟩
      · have kk : ∀ b o, h3.get? b = some o → b ∉ wr → s'.heap.get? b = some o := fun b o e hb => hm.heap b o (fun z => by
          rcases List.mem_cons.mp z with z | z
          · have hl := Heap.lt_size e
            rw [z] at hl
            exact Nat.lt_irrefl _ hl
          · exact hb z) (hk5 b o e)
        obtain ⟨psx, hPx, hPh, J⟩ := jinv s'.heap s'.toks (fun b o hb e => kk b o (keep3 b o hb e) (nwr b o e)) fun b o hb e => kk b o e (by
          rcases hb with rfl | rfl
          · exact nwr _ _ hPs
          · exact hccw)
        have J2 := GxR.inv_tab (more := #[]) (h' := s'.heap) (g' := s'.gens) (d' := s'.drawn) (t' := s'.toks) J hPx (fun b u _ e => e) (by rw [Array.append_empty]; exact hPh) (AllBare.movedS (I1.bare.push hgb) hm)
        have eH : upd H3 P (.tbl (psx ++ #[])) = H3 := funext fun b => by
          by_cases hb : b = P
          · rw [hb, upd_same, hPx, Array.append_empty]
          · rw [upd_ne hb]
        rw [eH] at J2
        have J3 : Inv X pins σ H3 s' := by
          have e9 := GxR.sh_eta { s1 with heap := s'.heap, toks := s'.toks } s' hm.os
          exact e9 ▸ J2
        exact ⟨H3, J3, hR3, eX⟩
  refine ⟨lim2, ?_⟩
  have hcP : cStatics ≠ P := fun e => by
    obtain ⟨_, hns, _⟩ := I1.nolimit
    obtain ⟨o', es, ep, ho, hd, _⟩ := hns
    rw [e, hPs] at ho
    cases ho
    cases hd
  cases hf : codeAmong gpos ps.toList with
  | none =>
    refine wpAny_genexprCodeX hcode (cd.code hP2 ht) (cd.tab hP2) hf fun c' h' tk hx hge hlt hco' hrec htab' _ => ?_
    obtain ⟨c2, oc, vs', t, e2, hoc, hd, hv⟩ := hrec
    cases e2
    have nC : H1 c' = none := I1.hok.fresh (Nat.le_trans hsz12 hge)
    have eL : (ps ++ #[rawInt gpos.line, rawInt gpos.col, .ref c']).toList = ps.toList ++ [rawInt gpos.line, rawInt gpos.col, .ref c'] := by simp
    have hE : LamX.ExtN H1 (upd (upd H1 P (.tbl (ps ++ #[rawInt gpos.line, rawInt gpos.col, .ref c']))) c' (LamX.CodeO c' (X.env.qual ++ "<genexpr>"))) := fun b o e n => by
      rw [upd_ne (ne_of_none e nC), upd_ne (fun z => n ps (Option.some.inj (e.symm.trans (by rw [z]; exact hP))))]
      exact e
    refine cont _ h' tk _ c' hx (Nat.le_trans hge (Nat.le_of_lt hlt)) (fun z => absurd (hwr2 _ z) (Nat.not_lt.mpr hge)) hlt (lim2.extBut hx hcP) hE (fun p hp => ?_) fun hh tk' k1 k2 => ?_
    · by_cases hb : p.1 = P
      · rw [huT p hp hb, hb]
        refine ⟨_, by rw [upd_ne (ne_of_none hP nC), upd_same], by rw [eL]; exact PySem.TriplesOk_snoc _ _ _ _ ht, fun p' cv hcv => ?_⟩
        rw [eL] at hcv
        rcases LamX.among_app _ ht hcv with z | z
        · obtain ⟨c0, e1, e2⟩ := ha p' cv z
          exact ⟨c0, e1, hE _ _ e2 LamX.codeO_ne⟩
        · exact ⟨c', z, upd_same⟩
      · obtain ⟨ps', a1, a2, a3⟩ := hR.tab p hp
        refine ⟨ps', by rw [upd_ne (ne_of_none a1 nC), upd_ne hb]; exact a1, a2, fun p' cv hcv => ?_⟩
        obtain ⟨c0, e1, e2⟩ := a3 p' cv hcv
        exact ⟨c0, e1, hE _ _ e2 LamX.codeO_ne⟩
    · have hPh := k2 P _ (.inl rfl) htab'.2
      exact ⟨_, by rw [upd_ne (ne_of_none hP nC), upd_same], hPh, LamX.inv_table (q := X.env.qual ++ "<genexpr>") I1 hP k1 hPh (Nat.le_trans hsz12 hge) ⟨oc, vs', t, k2 _ _ (.inr rfl) hoc, hd, hv⟩⟩
  | some cv =>
    refine wpAny_genexprCode_hit hcode (cd.code hP2 ht) hf ?_
    refine cont cv h2 tk2 H1 P (fun _ _ _ e => e) (Nat.le_refl _) (nwr _ _ hPs) (Nat.lt_of_lt_of_le hPlt hsz12) lim2 (LamX.ExtN.refl H1) hR.tab fun hh tk' k1 k2 => ?_
    have kall : ∀ b o, s1.heap.get? b = some o → hh.get? b = some o := fun b o e => by
      by_cases hb : b = P
      · subst hb; exact k2 _ _ (.inl rfl) (grow _ _ e)
      · exact k1 b o hb e
    exact ⟨ps, hP, kall _ _ hPs, I1.kept kall⟩
end
end NC
end S3
end
section
set_option Elab.async false
set_option linter.all false
set_option maxRecDepth 100000
set_option maxHeartbeats 4000000
namespace S3
open PySem PySem.Spec PyProof.Rows L2
noncomputable section NC
section
variable {B : Bx} {X : Cx} {W : WX}
def blsOf : List AV → Option (List Bool)
  | [] => some []
  | .bl b :: r => (blsOf r).map (b :: ·)
  | _ => none
theorem blsOf_at : ∀ {ys : List AV} {bs : List Bool}, blsOf ys = some bs → ys = bs.map AV.bl
  | [], bs, e => by cases e; rfl
  | a :: t, bs, e => by
    cases a with
    | bl b =>
      have e : (blsOf t).map (b :: ·) = some bs := e
      obtain ⟨cs, e1, rfl⟩ := Option.map_eq_some_iff.mp e
      rw [blsOf_at e1]; rfl
    | _ => cases e
theorem intsOf_eq : ∀ {ys : List AV} {ns : List Int}, intsOf ys = some ns → ys = ns.map AV.int
  | [], bs, e => by cases e; rfl
  | a :: t, bs, e => by
    cases a with
    | int b =>
      have e : (intsOf t).map (b :: ·) = some bs := e
      obtain ⟨cs, e1, rfl⟩ := Option.map_eq_some_iff.mp e
      rw [intsOf_eq e1]; rfl
    | _ => cases e
/-- fn eats what ys tells and gives what fin tells -/
def Eats (B : Bx) (X : Cx) (fn : String) (fin : List AV → Option AV) : Prop := ∀ (pins : List (Addr × Obj)) (σ : L2.St) (ρ : List Addr) (F : Hp) (h : AH) (H1 : Hp) (ys : List AV) (g : Addr) (s5 : Shared) (c : AV) (Q : VK), GReady B X pins σ ρ F h H1 ys g s5 → fin ys = some c →
  (∀ ρ' F' H' z, Ext ρ F H1 ρ' F' H' → HR B ρ' F' h H' → RV B ρ' F' c z → Q z H') → wpAny (model X.prog X.w) X.A (call (.builtin fn) [.ref g]) (EP X pins σ Q) X.xe s5
def gAny (ys : List AV) : Option AV := (blsOf ys).map fun bs => .bl (bs.any id)
def gSumI (ys : List AV) : Option AV := (intsOf ys).map fun ns => .int ns.sum
theorem range_any' (bs : List Bool) : (List.range bs.length).any (fun j => bs[j]?.getD false) = bs.any id := by
  induction bs with
  | nil => rfl
  | cons b r ih =>
    rw [List.length_cons, List.range_succ_eq_map, List.any_cons, List.any_map, List.any_cons, ← ih]
    rfl
theorem eats_any : Eats B X "any" gAny := by
  intro pins σ ρ F h H1 ys g s5 c Q R ef q
  obtain ⟨fp, wr, G, Fv, St, Wk, hst, hfp, hF, hI⟩ := R
  obtain ⟨bs, eb, rfl⟩ := Option.map_eq_some_iff.mp ef
  have ey := blsOf_at eb
  subst ey
  refine call_any_walkS (Wk.self 0 _ _ _ hst ⟨g, fp, wr, G, _, Fv, St, (fun j => bs[j]?.getD false), rfl, Wk, hst, fun j y sj Qj Ej hy hQj => ?_, fun s' hmv => ?_⟩)
  · obtain ⟨a, ea, qa⟩ := hF j y hy
    rw [List.getElem?_map] at ea
    obtain ⟨b, eb2, rfl⟩ := Option.map_eq_some_iff.mp ea
    rw [qv_bl qa]
    refine wpAny_truthy_bool ?_
    have hQj : Qj (bs[j]?.getD false) sj := hQj
    rw [eb2] at hQj
    exact hQj
  · obtain ⟨H2, J, hr2, ex⟩ := hI s' hmv
    refine ⟨.bl _, H2, J, rfl, q _ _ _ _ ex hr2 ?_⟩
    rw [List.length_map, range_any']
    exact rfl
theorem pre_sum : ∀ (ns : List Int) (n : Nat), n ≤ ns.length → preSum (fun j => ns[j]?.getD 0) n = (ns.take n).sum := by
  intro ns n
  induction n with
  | zero => intro _; rw [List.take_zero]; rfl
  | succ n ih =>
    intro hn
    have e : preSum (fun j => ns[j]?.getD 0) (n + 1) = preSum (fun j => ns[j]?.getD 0) n + ns[n]?.getD 0 := rfl
    rw [e, ih (by omega), List.take_succ, List.sum_append, List.getElem?_eq_getElem (by omega)]
    simp
theorem eats_sum : Eats B X "sum" gSumI := by
  intro pins σ ρ F h H1 ys g s5 c Q R ef q
  obtain ⟨fp, wr, G, Fv, St, Wk, hst, hfp, hF, hI⟩ := R
  obtain ⟨ns, eb, rfl⟩ := Option.map_eq_some_iff.mp ef
  have ey := intsOf_eq eb
  subst ey
  refine call_sum_walkAnyS (Wk.self 0 _ _ _ hst ⟨g, fp, wr, G, _, Fv, St, (fun j => ns[j]?.getD 0), rfl, Wk, hst, hfp, fun j y hy => ?_, fun s' t' hmv => ?_⟩)
  · obtain ⟨a, ea, qa⟩ := hF j y hy
    rw [List.getElem?_map] at ea
    obtain ⟨b, eb2, rfl⟩ := Option.map_eq_some_iff.mp ea
    obtain ⟨t, rfl⟩ := qv_int qa
    exact ⟨t, by show Value.int b t = Value.int (ns[j]?.getD 0) t; rw [eb2]; rfl⟩
  · obtain ⟨H2, J, hr2, ex⟩ := hI s' hmv
    refine ⟨.int _, H2, J, ⟨_, rfl⟩, q _ _ _ _ ex hr2 ?_⟩
    rw [List.length_map, pre_sum ns ns.length (Nat.le_refl _), List.take_length]
    exact rfl
def GSN (B : Bx) (X : Cx) (W : WX) (iter : Expr) (mi : MA) : Prop := ∀ (pins : List (Addr × Obj)) (s : Shared) (σ : L2.St) (H : Hp) (R : List V → Hp → Prop), Inv X pins σ H s → tmA B W mi σ H R →
  wpAny (model X.prog X.w) X.A (eval iter X.env) (fun xv s1 => ∃ H1 vs, Inv X pins σ H1 s1 ∧ R vs H1 ∧ wpAny (model X.prog X.w) X.A (pyIter xv) (fun it s2 => WSrc X H1 vs s1 s2 it) X.xe s1) X.xe s
def GSU (B : Bx) (X : Cx) (W : WX) (iter : Expr) (mi : MA) : Prop := ∀ (pins : List (Addr × Obj)) (s : Shared) (σ : L2.St) (H : Hp) (R : List (V × V) → Hp → Prop), Inv X pins σ H s → tmG B (RPs B) W mi σ H R →
  wpAny (model X.prog X.w) X.A (eval iter X.env) (fun xv s1 => ∃ H1 vs, Inv X pins σ H1 s1 ∧ R vs H1 ∧ wpAny (model X.prog X.w) X.A (pyIter xv) (fun it s2 => WSrcU X H1 vs s1 s2 it) X.xe s1) X.xe s
def mSeqI (m : ME) : MA := fun s h => (m s h).bind fun a h1 => match vSq h1 a with
  | some xs => .ok xs h1
  | none => .stk
theorem gsn_seq {e : Expr} {m : ME} (he : SE B X W e m) (hK : X.K = B.K := by rfl) : GSN B X W e (mSeqI m) := by
  intro pins s σ H R I h
  obtain ⟨ρ, F, h0, s0, sr, hr, p⟩ := h
  have run := he.run pins s σ H (fun x H1 => ∃ q vs, x = .ref q ∧ (SqL X.K H1 q vs ∨ SqT X.K H1 q vs) ∧ R vs H1) I ⟨ρ, F, h0, s0, sr, hr, p.andThen fun a h1 ρ1 F1 H1 x _ e1 hr1 ra p1 => by
    cases k : vSq h1 a with
    | none => simp only [k] at p1; exact p1.elim
    | some xs =>
      simp only [k] at p1
      obtain ⟨q, vs, ex, sq, rs⟩ := vSq_at hr1 ra k
      exact ⟨q, vs, ex, by rw [hK]; exact sq, p1 _ _ _ _ Ext.refl hr1 rs⟩⟩
  refine thn run fun xv s1 ⟨x, H1, I1, r1, q, vs, ex, sq, hR⟩ => ⟨H1, vs, I1, hR, ?_⟩
  subst ex
  obtain rfl : xv = Value.ref q := r1
  rcases sq with sq | sq
  · obtain ⟨its, rv, pl, _⟩ := I1.list sq
    have hl := pl.isList
    have hlen : vs.length = its.toArray.size := by rw [List.size_toArray]; exact rv.length
    obtain ⟨ob, eo, _⟩ := id hl
    have hlt := Heap.lt_size eo
    refine wpAny_pyIter_list hl ⟨⟨s1.heap.objs.size, [s1.heap.objs.size, q], [s1.heap.objs.size], (fun i v => its.toArray[i]? = some v), (fun i h => h.IsListIter s1.heap.objs.size q i ∧ h.IsList q its.toArray), rfl, fun A' hA => by rw [hlen]; exact Walks.list hA _ _ (Nat.ne_of_lt hlt) its.toArray, fun i v hv => Vals.at rv (by simpa using hv), ⟨⟨_, Heap.get?_push_size _ rfl, rfl, rfl⟩, hl.push _⟩, fun b hb => ?_, fun b hb => ?_, fun b hb ps hps => ?_⟩,
      ⟨_, s1.toks, rfl, fun b o e => Heap.get?_push_of_some _ e, by rw [Heap.size_push]; exact Nat.le_succ _⟩⟩
    · show b < (s1.heap.push _).objs.size
      rw [Heap.size_push]
      rcases List.mem_cons.mp hb with z | hb
      · rw [z]; exact Nat.lt_succ_self _
      · obtain rfl : b = q := by simpa using hb
        exact Nat.lt_succ_of_lt hlt
    · obtain rfl : b = s1.heap.objs.size := by simpa using hb
      exact Nat.le_refl _
    · rcases List.mem_cons.mp hb with z | hb
      · rw [z, I1.hok.fresh (Nat.le_refl _)] at hps
        cases hps
      · obtain rfl : b = q := by simpa using hb
        have := I1.hok _ _ hps
        obtain ⟨o2, e2, c2, _⟩ := hl
        rw [show s1.heap.get? b = _ from this] at e2
        cases e2
        cases c2
  · obtain ⟨its, rv, ht, _⟩ := I1.tuple sq
    have hlen : vs.length = its.toArray.size := by rw [List.size_toArray]; exact rv.length
    obtain ⟨ob, eo, hcl, _⟩ := id ht
    have hlt := Heap.lt_size eo
    refine wpAny_pyIter_tuple ht ⟨⟨s1.heap.objs.size, [s1.heap.objs.size, q], [s1.heap.objs.size], (fun i v => its.toArray[i]? = some v), (fun i h => h.IsTupleIter s1.heap.objs.size q i ∧ h.IsTuple q its.toArray), rfl, fun A' hA => by rw [hlen]; exact Walks.tuple hA _ _ (Nat.ne_of_lt hlt) its.toArray, fun i v hv => Vals.at rv (by simpa using hv), ⟨⟨_, Heap.get?_push_size _ rfl, rfl, rfl⟩, ht.push _⟩, fun b hb => ?_, fun b hb => ?_, fun b hb ps hps => ?_⟩,
      ⟨_, s1.toks, rfl, fun b o e => Heap.get?_push_of_some _ e, by rw [Heap.size_push]; exact Nat.le_succ _⟩⟩
    · show b < (s1.heap.push _).objs.size
      rw [Heap.size_push]
      rcases List.mem_cons.mp hb with z | hb
      · rw [z]; exact Nat.lt_succ_self _
      · obtain rfl : b = q := by simpa using hb
        exact Nat.lt_succ_of_lt hlt
    · obtain rfl : b = s1.heap.objs.size := by simpa using hb
      exact Nat.le_refl _
    · rcases List.mem_cons.mp hb with z | hb
      · rw [z, I1.hok.fresh (Nat.le_refl _)] at hps
        cases hps
      · obtain rfl : b = q := by simpa using hb
        have := I1.hok _ _ hps
        rw [show s1.heap.get? b = _ from this] at eo
        cases eo
        cases hcl
end
end NC
end S3
end
section
set_option Elab.async false
set_option linter.all false
set_option maxRecDepth 100000
set_option maxHeartbeats 4000000
namespace S3
open PySem PySem.Spec PyProof.Rows L2
noncomputable section NC
/-- a walk over tuples that lie there -/
theorem walks_toU {prog : Program} {w : World} {A : Around} {I : Addr} {fp wr : List Addr} {n : Nat} {P : Nat → Value → Prop} {St : Nat → Heap → Prop} (W : Walks prog w A I fp wr n P St) (Ts : Nat → Addr) (tv : Nat → Array Value) (hP : ∀ i v, i < n → P i v → v = .ref (Ts i)) (hT : ∀ k, k < n → Ts k ∉ wr)
    (hgo : ∀ i h, St i h → ∃ o nm vs, h.get? I = some o ∧ o.cls = .type nm ∧ o.data = .fields vs ∧ ["enumerate", "zip", "dict_itemiterator", "dict_reverseitemiterator", "odict_iterator", "itertools.zip_longest", "itertools.pairwise"].contains nm = false) :
    WalksU prog w A I (fp ++ (List.range n).map Ts) wr n (fun j vals => j < n ∧ vals = tv j) (fun i h => St i h ∧ ∀ k, k < n → h.IsTuple (Ts k) (tv k)) (fun j T h => (j < n ∧ T = Ts j) ∧ St (j + 1) h ∧ ∀ k, k < n → h.IsTuple (Ts k) (tv k)) where
  sub := fun b hb => List.mem_append_left _ (W.sub b hb)
  frame := fun i h h' st hk => ⟨W.frame i h h' st.1 fun b hb => hk b (List.mem_append_left _ hb), fun k hkn => (st.2 k hkn).at fun o e => hk _ (List.mem_append_right _ (List.mem_map_of_mem (f := Ts) (List.mem_range.mpr hkn))) o e⟩
  item := fun i s Q E hi st hQ => W.item i s Q E hi st.1 fun v h' tk hp hst hk => by
    have e := hP i v hi hp
    subst e
    have ht : ∀ k, k < n → h'.IsTuple (Ts k) (tv k) := fun k hkn => (st.2 k hkn).at fun o e => hk _ o (hT k hkn) e
    exact hQ (Ts i) (tv i) h' tk ⟨hi, rfl⟩ (ht i hi) ⟨⟨hi, rfl⟩, hst, ht⟩ hk
  go := fun elts k pos i T s Q E mid hQ => by
    obtain ⟨o, nm, vs, ho, hc, hd, hn⟩ := hgo _ _ mid.2.1
    exact go_of ho hc hd hn (hQ s.heap mid.2 fun _ _ _ e => e)
  apart := fun i T h mid => by
    rw [mid.1.2]
    exact hT i mid.1.1
  done := fun s Q E st hQ => W.done s Q E st.1 hQ
  self := fun i s Q E st hQ => W.self i s Q E st.1 hQ
section
variable {B : Bx} {X : Cx} {W : WX}
def mSeqP (m : ME) : MA := fun s h => (m s h).bind fun a h1 => match vSq h1 a with
  | some xs => if (xs.all fun x => (pairA x).isSome) = true then .ok xs h1 else .stk
  | none => .stk
/-- the pairs behind a list of pairs -/
theorem pairs_at {ρ : List Addr} {F H : Hp} {h : AH} {xs : List AV} {vs : List V} (hr : HR B ρ F h H) (rs : RVs B ρ F xs vs) (hp : (xs.all fun x => (pairA x).isSome) = true) : ∃ (Ts : Nat → Addr) (ps : List (V × V)), RPs B ρ F xs ps ∧ ∀ (i : Nat) (v : V), vs[i]? = some v → v = .ref (Ts i) ∧ ∃ y z, ps[i]? = some (y, z) ∧ SqT B.K H (Ts i) [y, z] := by
  induction xs generalizing vs with
  | nil =>
    have rs : vs = [] := rs
    subst rs
    exact ⟨fun _ => 0, [], ⟨rfl, fun i y z e => by cases e⟩, fun i v e => by cases e⟩
  | cons x r ih =>
    obtain ⟨v, w, rfl, r1, r2⟩ := rs
    rw [List.all_cons, Bool.and_eq_true] at hp
    obtain ⟨Ts, ps, ⟨q1, q2⟩, q3⟩ := ih r2 hp.2
    obtain ⟨p, ep⟩ := Option.isSome_iff_exists.mp hp.1
    have key : ∃ T y z, v = .ref T ∧ SqT B.K H T [y, z] ∧ RV B ρ F p.1 y ∧ RV B ρ F p.2 z := by
      unfold pairA at ep
      split at ep
      · cases ep
        obtain ⟨T, us, ev, hT, ru⟩ := r1
        obtain ⟨y, z, rfl, ry, rz⟩ := ru.two
        exact ⟨T, y, z, ev, .inl (.inl (hr.sub _ _ hT)), ry, rz⟩
      · cases ep
        obtain ⟨T, us, ev, hT, ru⟩ := r1
        obtain ⟨y, z, rfl, ry, rz⟩ := ru.two
        exact ⟨T, y, z, ev, hr.sqT hT.1, ry, rz⟩
      · cases ep
    obtain ⟨T, y, z, ev, hT, ry, rz⟩ := key
    refine ⟨fun i => match i with | 0 => T | i + 1 => Ts i, (y, z) :: ps, ⟨by rw [List.length_cons, List.length_cons, q1], fun i y' z' e => ?_⟩, fun i v' e => ?_⟩
    · cases i with
      | zero => cases e; exact ⟨x, p, rfl, ep, ry, rz⟩
      | succ i => exact q2 i y' z' e
    · cases i with
      | zero => cases e; exact ⟨ev, y, z, rfl, hT⟩
      | succ i => exact q3 i v' e
theorem gsu_seq {e : Expr} {m : ME} (he : SE B X W e m) (hK : X.K = B.K := by rfl) : GSU B X W e (mSeqP m) := by
  intro pins s σ H R I h
  obtain ⟨ρ, F, h0, s0, sr, hr, p⟩ := h
  have run := he.run pins s σ H (fun x H1 => ∃ (q : Addr) (vs : List V) (Ts : Nat → Addr) (ps : List (V × V)), x = .ref q ∧ (SqL X.K H1 q vs ∨ SqT X.K H1 q vs) ∧ (∀ (i : Nat) (v : V), vs[i]? = some v → v = .ref (Ts i) ∧ ∃ y z, ps[i]? = some (y, z) ∧ SqT B.K H1 (Ts i) [y, z]) ∧ vs.length = ps.length ∧ R ps H1) I ⟨ρ, F, h0, s0, sr, hr, p.andThen fun a h1 ρ1 F1 H1 x _ e1 hr1 ra p1 => by
    cases k : vSq h1 a with
    | none => simp only [k] at p1; exact p1.elim
    | some xs =>
      simp only [k] at p1
      split at p1
      · rename_i hp
        obtain ⟨q, vs, ex, sq, rs⟩ := vSq_at hr1 ra k
        obtain ⟨Ts, ps, rp, hT⟩ := pairs_at hr1 rs hp
        exact ⟨q, vs, Ts, ps, ex, by rw [hK]; exact sq, hT, by rw [← RVs.length rs, rp.1], p1 _ _ _ _ Ext.refl hr1 rp⟩
      · exact p1.elim⟩
  refine thn run fun xv s1 ⟨x, H1, I1, r1, q, vs, Ts, ps, ex, sq, hT, hlv, hR⟩ => ⟨H1, ps, I1, hR, ?_⟩
  subst ex
  obtain rfl : xv = Value.ref q := r1
  -- the tuples as they lie
  have tups : ∀ (i : Nat), i < ps.length → ∃ va vb y z, s1.heap.IsTuple (Ts i) #[va, vb] ∧ ps[i]? = some (y, z) ∧ RelV y va ∧ RelV z vb := fun i hi => by
    have hi' : i < vs.length := by omega
    obtain ⟨_, y, z, ep, ht⟩ := hT i _ (List.getElem?_eq_getElem hi')
    obtain ⟨its, rv, pl, _⟩ := I1.tuple (by rw [hK]; exact ht)
    obtain ⟨va, vb, rfl, ra, rb⟩ : ∃ va vb, its = [va, vb] ∧ RelV y va ∧ RelV z vb := by
      cases rv with
      | cons p q => cases q with
        | cons p' q' => cases q'; exact ⟨_, _, rfl, p, p'⟩
    exact ⟨va, vb, y, z, pl, ep, ra, rb⟩
  have tsel : ∃ tv : Nat → Array Value, ∀ i, i < ps.length → s1.heap.IsTuple (Ts i) (tv i) ∧ ∃ va vb y z, tv i = #[va, vb] ∧ ps[i]? = some (y, z) ∧ RelV y va ∧ RelV z vb := by
    refine ⟨fun i => if hi : i < ps.length then #[(tups i hi).choose, (tups i hi).choose_spec.choose] else #[], fun i hi => ?_⟩
    have c := (tups i hi).choose_spec.choose_spec
    have ed : (fun i => if hi : i < ps.length then #[(tups i hi).choose, (tups i hi).choose_spec.choose] else #[]) i = #[(tups i hi).choose, (tups i hi).choose_spec.choose] := dif_pos hi
    rw [ed]
    obtain ⟨y, z, c1, c2, c3, c4⟩ := c
    exact ⟨c1, _, _, y, z, rfl, c2, c3, c4⟩
  obtain ⟨tv, htv⟩ := tsel
  have tlt : ∀ k, k < ps.length → Ts k < s1.heap.objs.size := fun k hk => by
    obtain ⟨⟨o, eo, _⟩, _⟩ := htv k hk
    exact Heap.lt_size eo
  have tnt : ∀ k, k < ps.length → ∀ qs, H1 (Ts k) ≠ some (.tbl qs) := fun k hk qs hq => by
    obtain ⟨⟨o, eo, hc, _⟩, _⟩ := htv k hk
    have := I1.hok _ _ hq
    rw [show s1.heap.get? (Ts k) = _ from this] at eo
    cases eo
    cases hc
  rcases sq with sq | sq
  · obtain ⟨its, rv, pl, _⟩ := I1.list sq
    have hl := pl.isList
    have hlen : ps.length = its.toArray.size := by rw [List.size_toArray, ← hlv]; exact rv.length
    obtain ⟨ob, eo, _⟩ := id hl
    have hlt := Heap.lt_size eo
    have hitP : ∀ i v, i < ps.length → its.toArray[i]? = some v → v = .ref (Ts i) := fun i v hi hv => by
      obtain ⟨x, ex, rx⟩ := Vals.at rv (by simpa using hv)
      obtain ⟨e1, _⟩ := hT i x ex
      subst e1
      exact rx
    refine wpAny_pyIter_list hl ⟨⟨s1.heap.objs.size, [s1.heap.objs.size, q] ++ (List.range ps.length).map Ts, [s1.heap.objs.size], (fun j vals => j < ps.length ∧ vals = tv j), (fun i h => (h.IsListIter s1.heap.objs.size q i ∧ h.IsList q its.toArray) ∧ ∀ k, k < ps.length → h.IsTuple (Ts k) (tv k)), (fun j T h => (j < ps.length ∧ T = Ts j) ∧ (h.IsListIter s1.heap.objs.size q (j + 1) ∧ h.IsList q its.toArray) ∧ ∀ k, k < ps.length → h.IsTuple (Ts k) (tv k)), rfl,
      fun A' hA => walks_toU (by rw [hlen]; exact Walks.list hA _ _ (Nat.ne_of_lt hlt) its.toArray) Ts tv hitP (fun k hk z => ?_) (fun i h st => ?_), fun i vals ⟨hi, ev⟩ => ?_, ⟨⟨⟨_, Heap.get?_push_size _ rfl, rfl, rfl⟩, hl.push _⟩, fun k hk => (htv k hk).1.push _⟩, fun b hb => ?_, fun b hb => ?_, fun b hb qs hq => ?_⟩,
      ⟨_, s1.toks, rfl, fun b o e => Heap.get?_push_of_some _ e, by rw [Heap.size_push]; exact Nat.le_succ _⟩⟩
    · have := tlt k hk
      rw [show Ts k = s1.heap.objs.size by simpa using z] at this
      exact Nat.lt_irrefl _ this
    · obtain ⟨⟨o, e1, e2, e3⟩, _⟩ := st
      exact ⟨o, _, _, e1, e2, e3, by decide⟩
    · obtain ⟨_, va, vb, y, z, e1, e2, e3, e4⟩ := htv i hi
      exact ⟨va, vb, y, z, ev.trans e1, e2, e3, e4⟩
    · show b < (s1.heap.push _).objs.size
      rw [Heap.size_push]
      rcases List.mem_append.mp hb with hb | hb
      · rcases List.mem_cons.mp hb with z | hb
        · rw [z]; exact Nat.lt_succ_self _
        · obtain rfl : b = q := by simpa using hb
          exact Nat.lt_succ_of_lt hlt
      · obtain ⟨k, hk, rfl⟩ := List.mem_map.mp hb
        exact Nat.lt_succ_of_lt (tlt k (List.mem_range.mp hk))
    · obtain rfl : b = s1.heap.objs.size := by simpa using hb
      exact Nat.le_refl _
    · rcases List.mem_append.mp hb with hb | hb
      · rcases List.mem_cons.mp hb with z | hb
        · rw [z, I1.hok.fresh (Nat.le_refl _)] at hq
          cases hq
        · obtain rfl : b = q := by simpa using hb
          have := I1.hok _ _ hq
          obtain ⟨o2, e2, c2, _⟩ := hl
          rw [show s1.heap.get? b = _ from this] at e2
          cases e2
          cases c2
      · obtain ⟨k, hk, rfl⟩ := List.mem_map.mp hb
        exact tnt k (List.mem_range.mp hk) qs hq
  · obtain ⟨its, rv, ht, _⟩ := I1.tuple sq
    have hlen : ps.length = its.toArray.size := by rw [List.size_toArray, ← hlv]; exact rv.length
    obtain ⟨ob, eo, hcl, _⟩ := id ht
    have hlt := Heap.lt_size eo
    have hitP : ∀ i v, i < ps.length → its.toArray[i]? = some v → v = .ref (Ts i) := fun i v hi hv => by
      obtain ⟨x, ex, rx⟩ := Vals.at rv (by simpa using hv)
      obtain ⟨e1, _⟩ := hT i x ex
      subst e1
      exact rx
    refine wpAny_pyIter_tuple ht ⟨⟨s1.heap.objs.size, [s1.heap.objs.size, q] ++ (List.range ps.length).map Ts, [s1.heap.objs.size], (fun j vals => j < ps.length ∧ vals = tv j), (fun i h => (h.IsTupleIter s1.heap.objs.size q i ∧ h.IsTuple q its.toArray) ∧ ∀ k, k < ps.length → h.IsTuple (Ts k) (tv k)), (fun j T h => (j < ps.length ∧ T = Ts j) ∧ (h.IsTupleIter s1.heap.objs.size q (j + 1) ∧ h.IsTuple q its.toArray) ∧ ∀ k, k < ps.length → h.IsTuple (Ts k) (tv k)), rfl,
      fun A' hA => walks_toU (by rw [hlen]; exact Walks.tuple hA _ _ (Nat.ne_of_lt hlt) its.toArray) Ts tv hitP (fun k hk z => ?_) (fun i h st => ?_), fun i vals ⟨hi, ev⟩ => ?_, ⟨⟨⟨_, Heap.get?_push_size _ rfl, rfl, rfl⟩, ht.push _⟩, fun k hk => (htv k hk).1.push _⟩, fun b hb => ?_, fun b hb => ?_, fun b hb qs hq => ?_⟩,
      ⟨_, s1.toks, rfl, fun b o e => Heap.get?_push_of_some _ e, by rw [Heap.size_push]; exact Nat.le_succ _⟩⟩
    · have := tlt k hk
      rw [show Ts k = s1.heap.objs.size by simpa using z] at this
      exact Nat.lt_irrefl _ this
    · obtain ⟨⟨o, e1, e2, e3⟩, _⟩ := st
      exact ⟨o, _, _, e1, e2, e3, by decide⟩
    · obtain ⟨_, va, vb, y, z, e1, e2, e3, e4⟩ := htv i hi
      exact ⟨va, vb, y, z, ev.trans e1, e2, e3, e4⟩
    · show b < (s1.heap.push _).objs.size
      rw [Heap.size_push]
      rcases List.mem_append.mp hb with hb | hb
      · rcases List.mem_cons.mp hb with z | hb
        · rw [z]; exact Nat.lt_succ_self _
        · obtain rfl : b = q := by simpa using hb
          exact Nat.lt_succ_of_lt hlt
      · obtain ⟨k, hk, rfl⟩ := List.mem_map.mp hb
        exact Nat.lt_succ_of_lt (tlt k (List.mem_range.mp hk))
    · obtain rfl : b = s1.heap.objs.size := by simpa using hb
      exact Nat.le_refl _
    · rcases List.mem_append.mp hb with hb | hb
      · rcases List.mem_cons.mp hb with z | hb
        · rw [z, I1.hok.fresh (Nat.le_refl _)] at hq
          cases hq
        · obtain rfl : b = q := by simpa using hb
          have := I1.hok _ _ hq
          rw [show s1.heap.get? b = _ from this] at eo
          cases eo
          cases hcl
      · obtain ⟨k, hk, rfl⟩ := List.mem_map.mp hb
        exact tnt k (List.mem_range.mp hk) qs hq
def mGenN (fin : List AV → Option AV) (mi : MA) (i : Nat) (qt : QT) (qe : QE) : ME := fun s h => (mi s h).bind fun xs h1 =>
  if itemsOk xs (fun a => qt (s.set i (some a)) h1) (fun a => qe (s.set i (some a)) h1) = true then ofO (fin (xs.filterMap (itemG (fun a => qt (s.set i (some a)) h1) (fun a => qe (s.set i (some a)) h1)))) h1 else .stk
def mGenU (fin : List AV → Option AV) (mi : MA) (i i' : Nat) (qt : QT) (qe : QE) : ME := fun s h => (mi s h).bind fun xs h1 =>
  if itemsOk xs (fun y => (pairA y).bind fun p => qt ((s.set i (some p.1)).set i' (some p.2)) h1) (fun y => (pairA y).bind fun p => qe ((s.set i (some p.1)).set i' (some p.2)) h1) = true then
    ofO (fin (xs.filterMap (itemG (fun y => (pairA y).bind fun p => qt ((s.set i (some p.1)).set i' (some p.2)) h1) (fun y => (pairA y).bind fun p => qe ((s.set i (some p.1)).set i' (some p.2)) h1)))) h1 else .stk
/-- what the maker of a generator must have -/
structure GenX (B : Bx) (X : Cx) (c P : Addr) : Prop where
  TB : LamX.TabB X.base X.mg c P
  hcode : X.env.code = .ref c
  hmT : (P, X.env.qual ++ "<genexpr>") ∈ B.T
  huT : ∀ p ∈ B.T, p.1 = P → p.2 = X.env.qual ++ "<genexpr>"
section
variable {c P : Addr} {elt iter : Expr} {x x' : Str} {ifs : List Expr} {px px' pt p pos gpos : Pos} {kt : Nat} {scope : Scope} {k i i' : Nat} {qt : QT} {qe : QE} {mi : MA} {fn : String} {fin : List AV → Option AV} {fs : Str}
theorem se_genN (hE : Eats B X fn fin) (hg : Gl X fs) (hm : X.mg fs = none) (hv : bootBuiltins fs = some (.builtin fn)) (GX : GenX B X c P) (hr : Room k X.A) (S : GScope X.env.scope scope [x]) (hN : X.N.Nodup) (hdot : (".0" : Str) ∉ X.N) (hsrc : GSN B X W iter mi) (hts : QTs B X scope ifs qt) (hel : SQ B X scope elt qe)
    (hi : X.N[i]? = some x := by rfl) (hs : ∀ v, genFold iter X.env v = pure v := by intro _; rfl) (hnn : fs ≠ "__name__" := by decide) (hdb : (fs == ("__debug__" : Str)) = false := by decide)
    (he : starEach [.GeneratorExp elt [⟨.Name x px, iter, ifs, 0⟩] scope gpos] X.env = (false, eval (.GeneratorExp elt [⟨.Name x px, iter, ifs, 0⟩] scope gpos) X.env) :: starEach [] X.env := by rfl) :
    SE B X W (.Call (.Name fs p) [.GeneratorExp elt [⟨.Name x px, iter, ifs, 0⟩] scope gpos] [] pos) (mGenN fin mi i qt qe) := by
  refine ⟨fun pins s σ H Q I hh => ?_⟩
  obtain ⟨ρ, F, h, sl, sr, hR, pp⟩ := hh
  refine wpAny_Call_Name_kw (ld_blt I hg hm hv ?_ hnn hdb)
  refine PyProof.Rows.callWith_builtin1 ?_ he (by rfl)
  rw [he]
  show wpAny _ _ (spliced ((false, eval (.GeneratorExp elt [⟨.Name x px, iter, ifs, 0⟩] scope gpos) X.env) :: backTo pos (starEach [] X.env))) _ _ s
  refine Calls.spliced_cons (gen_name (B := B) (qt := qt) (qe := qe) hr GX.TB GX.hcode GX.hmT GX.huT S hN hi hdot hts hel hs I ?_)
  refine thn (hsrc pins s σ H (fun vs H1 => ∃ ρ F h xs, SR B ρ F sl σ ∧ HR B ρ F h H1 ∧ RVs B ρ F xs vs ∧ Post B (RV B) ρ F H1 (if itemsOk xs (fun a => qt (sl.set i (some a)) h) (fun a => qe (sl.set i (some a)) h) = true then ofO (fin (xs.filterMap (itemG (fun a => qt (sl.set i (some a)) h) (fun a => qe (sl.set i (some a)) h)))) h else .stk) Q (fun cls d H' => W cls d σ H')) I
    ⟨ρ, F, h, sl, sr, hR, pp.andThen fun xs h1 ρ1 F1 H1 vs _ e1 hr1 rs p1 => ⟨ρ1, F1, h1, xs, sr.ext e1, hr1, rs, p1⟩⟩) fun xv s1 ⟨H1, vs, I1, ⟨ρ1, F1, h1, xs, sr1, hr1, rs, p1⟩, hpi⟩ => ?_
  split at p1
  · rename_i ok
    refine ⟨ρ1, F1, h1, H1, sl, xs, vs, I1, sr1, hr1, rs, ok, hpi, fun g s5 R => Calls.spliced_nil ?_⟩
    obtain ⟨cc, ec, q⟩ := ofO_post p1
    exact hE pins σ ρ1 F1 h1 H1 _ g s5 cc Q R ec q
  · exact p1.elim
theorem se_genU (hE : Eats B X fn fin) (hg : Gl X fs) (hm : X.mg fs = none) (hv : bootBuiltins fs = some (.builtin fn)) (GX : GenX B X c P) (hr : Room k X.A) (S : GScope X.env.scope scope [x, x']) (hN : X.N.Nodup) (hdot : (".0" : Str) ∉ X.N) (hsrc : GSU B X W iter mi) (hts : QTs B X scope ifs qt) (hel : SQ B X scope elt qe)
    (hi : X.N[i]? = some x := by rfl) (hi' : X.N[i']? = some x' := by rfl) (hxx : x ≠ x' := by decide) (hs : ∀ v, genFold iter X.env v = pure v := by intro _; rfl) (hnn : fs ≠ "__name__" := by decide) (hdb : (fs == ("__debug__" : Str)) = false := by decide)
    (he : starEach [.GeneratorExp elt [⟨.Tuple [.Name x px, .Name x' px'] kt pt, iter, ifs, 0⟩] scope gpos] X.env = (false, eval (.GeneratorExp elt [⟨.Tuple [.Name x px, .Name x' px'] kt pt, iter, ifs, 0⟩] scope gpos) X.env) :: starEach [] X.env := by rfl) :
    SE B X W (.Call (.Name fs p) [.GeneratorExp elt [⟨.Tuple [.Name x px, .Name x' px'] kt pt, iter, ifs, 0⟩] scope gpos] [] pos) (mGenU fin mi i i' qt qe) := by
  refine ⟨fun pins s σ H Q I hh => ?_⟩
  obtain ⟨ρ, F, h, sl, sr, hR, pp⟩ := hh
  refine wpAny_Call_Name_kw (ld_blt I hg hm hv ?_ hnn hdb)
  refine PyProof.Rows.callWith_builtin1 ?_ he (by rfl)
  rw [he]
  show wpAny _ _ (spliced ((false, eval (.GeneratorExp elt [⟨.Tuple [.Name x px, .Name x' px'] kt pt, iter, ifs, 0⟩] scope gpos) X.env) :: backTo pos (starEach [] X.env))) _ _ s
  refine Calls.spliced_cons (gen_pair (B := B) (qt := qt) (qe := qe) hr GX.TB GX.hcode GX.hmT GX.huT S hN hi hi' hxx hdot hts hel hs I ?_)
  refine thn (hsrc pins s σ H (fun vs H1 => ∃ ρ F h xs, SR B ρ F sl σ ∧ HR B ρ F h H1 ∧ RPs B ρ F xs vs ∧ Post B (RV B) ρ F H1 (if itemsOk xs (fun y => (pairA y).bind fun p => qt ((sl.set i (some p.1)).set i' (some p.2)) h) (fun y => (pairA y).bind fun p => qe ((sl.set i (some p.1)).set i' (some p.2)) h) = true then
      ofO (fin (xs.filterMap (itemG (fun y => (pairA y).bind fun p => qt ((sl.set i (some p.1)).set i' (some p.2)) h) (fun y => (pairA y).bind fun p => qe ((sl.set i (some p.1)).set i' (some p.2)) h)))) h else .stk) Q (fun cls d H' => W cls d σ H')) I
    ⟨ρ, F, h, sl, sr, hR, Post.andThen (k := fun xs h1 => if itemsOk xs (fun y => (pairA y).bind fun p => qt ((sl.set i (some p.1)).set i' (some p.2)) h1) (fun y => (pairA y).bind fun p => qe ((sl.set i (some p.1)).set i' (some p.2)) h1) = true then
      ofO (fin (xs.filterMap (itemG (fun y => (pairA y).bind fun p => qt ((sl.set i (some p.1)).set i' (some p.2)) h1) (fun y => (pairA y).bind fun p => qe ((sl.set i (some p.1)).set i' (some p.2)) h1)))) h1 else .stk) pp fun xs h1 ρ1 F1 H1 vs _ e1 hr1 rs p1 => ⟨ρ1, F1, h1, xs, sr.ext e1, hr1, rs, p1⟩⟩) fun xv s1 ⟨H1, vs, I1, ⟨ρ1, F1, h1, xs, sr1, hr1, rs, p1⟩, hpi⟩ => ?_
  split at p1
  · rename_i ok
    refine ⟨ρ1, F1, h1, H1, sl, xs, vs, I1, sr1, hr1, rs, ok, hpi, fun g s5 R => Calls.spliced_nil ?_⟩
    obtain ⟨cc, ec, q⟩ := ofO_post p1
    exact hE pins σ ρ1 F1 h1 H1 _ g s5 cc Q R ec q
  · exact p1.elim
end
end
end NC
end S3
end
section
set_option Elab.async false
set_option linter.all false
set_option maxRecDepth 100000
set_option maxHeartbeats 4000000
namespace S3
open PySem PySem.Spec PyProof.Rows L2
noncomputable section NC
section
variable {B : Bx} {X : Cx} {W : WX} {sc : Scope}
def qAndE (a b : QE) : QE := fun s h => (a s h).bind fun x => match x with
  | .bl true => b s h
  | .bl false => some (.bl false)
  | _ => none
def qOrE (a b : QE) : QE := fun s h => (a s h).bind fun x => match x with
  | .bl true => some (.bl true)
  | .bl false => b s h
  | _ => none
def qNotE (a : QE) : QE := fun s h => (a s h).bind fun x => match x with
  | .bl b => some (.bl (!b))
  | _ => none
theorem sq_one {op : BoolOp} {e : Expr} {q : QE} {pos : Pos} (h : SQ B X sc e q) : SQ B X sc (.BoolOp op [e] pos) q := fun cenv A' E' s ρ F hh H sl σ a es qs hr sr ea => BoolOp_one (h cenv A' E' s ρ F hh H sl σ a es qs hr sr ea)
theorem sq_and {a b : Expr} {r : List Expr} {p q : QE} {pos : Pos} (ha : SQ B X sc a p) (hb : SQ B X sc (.BoolOp .And (b :: r) pos) q) : SQ B X sc (.BoolOp .And (a :: b :: r) pos) (qAndE p q) := by
  intro cenv A' E' s ρ F h H sl σ d es qs hr sr e
  have e : ((p sl h).bind fun x => match x with
    | .bl true => q sl h
    | .bl false => some (.bl false)
    | _ => none) = some d := e
  obtain ⟨x, e1, e⟩ := Option.bind_eq_some_iff.mp e
  refine BoolOp_and (thn (ha cenv A' _ s ρ F h H sl σ x es qs hr sr e1) fun v s1 ⟨r1, k1⟩ => ?_)
  split at e
  · rw [qv_bl r1]
    refine wpAny_truthy_bool ?_
    exact thn (hb cenv A' _ s1 ρ F h H sl σ d es (qs.keeps k1) hr sr e) fun c s2 ⟨r2, k2⟩ => ⟨r2, keeps_trans k1 k2⟩
  · cases e
    rw [qv_bl r1]
    exact wpAny_truthy_bool ⟨bl_qv, k1⟩
  · cases e
theorem PI.or {tg e : Expr} {t t' t2 : TI} (h : PI X tg e t) (h' : PI X tg e t') (w : ∀ σ H R, t2 σ H R → t σ H R ∨ t' σ H R) : PI X tg e t2 := ⟨fun pins s σ H R I q => (w σ H R q).elim (h.run pins s σ H R I) (h'.run pins s σ H R I)⟩
def mSqA (m : ME) : MI := fun s h => (m s h).bind fun a h1 => match vT a with
  | some xs => .ok (rdC xs) h1
  | none => match vLR h1 a with
    | some _ => .ok (fun h => vLR h a) h1
    | none => .stk
end
end NC
end S3
end
section
set_option Elab.async false
set_option linter.all false
set_option maxRecDepth 100000
set_option maxHeartbeats 4000000
namespace S3
open PySem PySem.Spec PyProof.Rows L2
noncomputable section NC
/-- .. for a def that makes a thing its caller gets (all of the heap stays) -/
def CleanIo (c : Str) (n : Nat) (r : Rs AV) : Prop := match r with
  | .ok .non h => n < h.length ∧ Closed (h.take n) ∧ ∃ fs, h[n]? = some (.ins c fs) ∧ LFs n fs
  | .ok _ _ => False
  | .exc _ fs h => n ≤ h.length ∧ LFs n fs ∧ Closed (h.take n)
  | .stk => True
open Classical in
noncomputable def cleanI (c : Str) (g : Fn) : List AV → AH → Rs (List (Str × AV)) := fun as h => if CleanIo c h.length (g (.ref h.length :: as) (h ++ [.ins c []])) then (match g (.ref h.length :: as) (h ++ [.ins c []]) with
  | .ok _ h' => match h'[h.length]? with
    | some (.ins _ fs) => .ok fs (h'.take h.length)
    | _ => .stk
  | .exc e fs h' => .exc e fs (h'.take h.length)
  | .stk => .stk) else .stk
theorem init_clean (c : Str) (g : Fn) : InitOk c g (cleanI c g) := fun as h cl la => by
  unfold cleanI
  by_cases hc : CleanIo c h.length (g (.ref h.length :: as) (h ++ [.ins c []]))
  · rw [if_pos hc]
    cases k : g (.ref h.length :: as) (h ++ [.ins c []]) with
    | stk => trivial
    | exc e fs h' =>
      rw [k] at hc
      obtain ⟨h1, h2, h3⟩ := hc
      refine ⟨h'.drop h.length, by rw [List.take_append_drop], by rw [List.length_take]; omega, by rw [List.length_take, Nat.min_eq_left h1]; exact h2, h3⟩
    | ok a h' =>
      rw [k] at hc
      cases a with
      | non =>
        obtain ⟨h1, h3, fs, e1, h2⟩ := hc
        simp only [e1]
        refine ⟨h'.drop (h.length + 1), ?_, by rw [List.length_take]; omega, h2, h3⟩
        have e2 : h'.take h.length ++ [AO.ins c fs] = h'.take (h.length + 1) := by
          rw [List.take_succ, e1]
          rfl
        rw [e2, List.take_append_drop]
      | _ => exact hc.elim
  · rw [if_neg hc]
    trivial
theorem cleanI_ok {c : Str} {g : Fn} {as : List AV} {h h1 r : AH} {fs : List (Str × AV)} (e : g (.ref h.length :: as) (h ++ [.ins c []]) = .ok .non (h1 ++ [.ins c fs] ++ r)) (hl : h1.length = h.length) (lf : LFs h.length fs) (cl : Closed h1) : cleanI c g as h = .ok fs h1 := by
  have et : (h1 ++ [AO.ins c fs] ++ r).take h.length = h1 := by rw [← hl, List.append_assoc, List.take_left']; rfl
  have eg : (h1 ++ [AO.ins c fs] ++ r)[h.length]? = some (.ins c fs) := by
    rw [List.getElem?_append_left (by rw [List.length_append, hl]; exact Nat.lt_succ_self _), ← hl]
    exact getElem?_snoc _ _
  unfold cleanI
  rw [if_pos (by rw [e]; exact ⟨by rw [List.length_append, List.length_append, hl]; simp only [List.length_singleton]; omega, by rw [et]; exact cl, fs, eg, lf⟩), e]
  simp only [eg, et]
theorem cleanI_exc {c : Str} {g : Fn} {as : List AV} {h h1 r : AH} {d : Str} {fs : List (Str × AV)} (e : g (.ref h.length :: as) (h ++ [.ins c []]) = .exc d fs (h1 ++ r)) (hl : h1.length = h.length) (lf : LFs h.length fs) (cl : Closed h1) : cleanI c g as h = .exc d fs h1 := by
  have et : (h1 ++ r).take h.length = h1 := by rw [← hl, List.take_left']; rfl
  unfold cleanI
  rw [if_pos (by rw [e]; exact ⟨by rw [List.length_append]; omega, lf, by rw [et]; exact cl⟩), e]
  show Rs.exc d fs ((h1 ++ r).take h.length) = _
  rw [et]
end NC
end S3
end
section
set_option Elab.async false
set_option linter.all false
set_option maxRecDepth 100000
set_option maxHeartbeats 4000000
namespace S3
open PySem PySem.Spec PyProof.Rows L2
noncomputable section NC
section
variable {α β : Type} {s : Sl} {h : AH}
@[simp] theorem bind_ok {f : α → AH → Rs β} {a : α} : (Rs.ok a h).bind f = f a h := rfl
@[simp] theorem bind_exc {f : α → AH → Rs β} {c : Str} {fs : List (Str × AV)} : (Rs.exc c fs h).bind f = .exc c fs h := rfl
@[simp] theorem toS_ok {f : α → AH → Ss} {a : α} : (Rs.ok a h).toS s f = f a h := rfl
@[simp] theorem toS_exc {f : α → AH → Ss} {c : Str} {fs : List (Str × AV)} : (Rs.exc c fs h : Rs α).toS s f = .exc s c fs h := rfl
@[simp] theorem then_nx {k : Sl → AH → Ss} : (Ss.nx s h).then k = k s h := rfl
@[simp] theorem then_rt {k : Sl → AH → Ss} {a : AV} : (Ss.rt a h).then k = .rt a h := rfl
@[simp] theorem then_bk {k : Sl → AH → Ss} : (Ss.bk s h).then k = .bk s h := rfl
@[simp] theorem then_ct {k : Sl → AH → Ss} : (Ss.ct s h).then k = .ct s h := rfl
@[simp] theorem then_exc {k : Sl → AH → Ss} {c : Str} {fs : List (Str × AV)} : (Ss.exc s c fs h).then k = .exc s c fs h := rfl
@[simp] theorem fin_nx : (Ss.nx s h).fin = .ok .non h := rfl
@[simp] theorem fin_rt {a : AV} : (Ss.rt a h).fin = .ok a h := rfl
@[simp] theorem fin_exc {c : Str} {fs : List (Str × AV)} : (Ss.exc s c fs h).fin = .exc c fs h := rfl
@[simp] theorem lp_nx {k : Sl → AH → Ss} : (Ss.nx s h).lp k = k s h := rfl
@[simp] theorem lp_ct {k : Sl → AH → Ss} : (Ss.ct s h).lp k = k s h := rfl
@[simp] theorem lp_bk {k : Sl → AH → Ss} : (Ss.bk s h).lp k = .nx s h := rfl
@[simp] theorem lp_rt {k : Sl → AH → Ss} {a : AV} : (Ss.rt a h).lp k = .rt a h := rfl
@[simp] theorem lp_exc {k : Sl → AH → Ss} {c : Str} {fs : List (Str × AV)} : (Ss.exc s c fs h).lp k = .exc s c fs h := rfl
@[simp] theorem then_ite {c : Prop} [Decidable c] {a b : Ss} {k : Sl → AH → Ss} : (if c then a else b).then k = if c then a.then k else b.then k := by split <;> rfl
@[simp] theorem fin_ite {c : Prop} [Decidable c] {a b : Ss} : (if c then a else b).fin = if c then a.fin else b.fin := by split <;> rfl
@[simp] theorem lp_ite {c : Prop} [Decidable c] {a b : Ss} {k : Sl → AH → Ss} : (if c then a else b).lp k = if c then a.lp k else b.lp k := by split <;> rfl
@[simp] theorem bind_ite {c : Prop} [Decidable c] {a b : Rs α} {f : α → AH → Rs β} : (if c then a else b).bind f = if c then a.bind f else b.bind f := by split <;> rfl
@[simp] theorem toS_ite {c : Prop} [Decidable c] {a b : Rs α} {f : α → AH → Ss} : (if c then a else b).toS s f = if c then a.toS s f else b.toS s f := by split <;> rfl
@[simp] theorem ofO_some {a : AV} : ofO (some a) h = .ok a h := rfl
@[simp] theorem ap_seq {a b : MS} : mSeq a b s h = (a s h).then b := rfl
@[simp] theorem ap_skip : mSkip s h = .nx s h := rfl
@[simp] theorem ap_brk : mBrk s h = .bk s h := rfl
@[simp] theorem ap_cnt : mCnt s h = .ct s h := rfl
@[simp] theorem ap_ret {m : ME} : mRet m s h = (m s h).toS s fun a h1 => .rt a h1 := rfl
@[simp] theorem ap_retN : mRetN s h = .rt .non h := rfl
@[simp] theorem ap_exprS {m : ME} : mExprS m s h = (m s h).toS s fun _ h1 => .nx s h1 := rfl
@[simp] theorem ap_ifS {c : MT} {a b : MS} : mIfS c a b s h = (c s h).toS s fun x h1 => if x = true then a s h1 else b s h1 := rfl
@[simp] theorem ap_asg {m : ME} {i : Nat} : mAsg m (tName i) s h = (m s h).toS s fun a h1 => .nx (s.set i (some a)) h1 := by
  show (m s h).toS s (fun a h1 => match tName i a s h1 with
    | some s1 => .nx s1 h1
    | none => .stk) = _
  rfl
@[simp] theorem ap_asgT {m : ME} {n : Nat} {u : Gts} : mAsg m (tTupT n u) s h = (m s h).toS s fun a h1 => match tTupT n u a s h1 with
    | some s1 => .nx s1 h1
    | none => .stk := rfl
@[simp] theorem ap_name {i : Nat} {a : AV} : tName i a s h = some (s.set i (some a)) := rfl
@[simp] theorem ap_more {t : Gt} {u : Gts} {a : AV} {r : List AV} : tMore t u (a :: r) s h = (t a s h).bind fun s1 => u r s1 h := rfl
@[simp] theorem ap_none : tNone [] s h = some s := rfl
@[simp] theorem ap_tup {n : Nat} {u : Gts} {xs : List AV} : tTupT n u (.tup xs) s h = if xs.length = n then u xs s h else none := rfl
@[simp] theorem ap_par {i j : Nat} {m : MA} : mPar i j m s h = (m s h).toS s fun as h1 => match as with
  | [v, w] => .nx ((s.set i (some v)).set j (some w)) h1
  | _ => .stk := rfl
@[simp] theorem ap_par3 {i j k : Nat} {m : MA} : mPar3 i j k m s h = (m s h).toS s fun as h1 => match as with
  | [v, w, z] => .nx (((s.set i (some v)).set j (some w)).set k (some z)) h1
  | _ => .stk := rfl
@[simp] theorem ap_aug {i : Nat} {g : G2} {m : ME} : mAug i g m s h = match s[i]? with
  | some (some a) => (m s h).toS s fun b h1 => match g a b h1 with
    | some c => .nx (s.set i (some c)) h1
    | none => .stk
  | _ => .stk := rfl
@[simp] theorem ap_raise {c : Str} : mRaise c s h = .exc s c [] h := rfl
@[simp] theorem ap_forget {vs : List Nat} : mForget vs s h = .nx (wipeA s vs) h := rfl
@[simp] theorem wipe_nil : wipeA s [] = s := rfl
@[simp] theorem wipe_cons {v : Nat} {vs : List Nat} : wipeA s (v :: vs) = (wipeA s vs).set v none := rfl
@[simp] theorem ap_c {a : AV} : mC a s h = .ok a h := rfl
@[simp] theorem ap_bin {g : G2} {a b : ME} : mBin g a b s h = (a s h).bind fun a h1 => (b s h1).bind fun b h2 => ofO (g a b h2) h2 := rfl
@[simp] theorem ap_un {g : G1} {a : ME} : mUn g a s h = (a s h).bind fun a h1 => ofO (g a h1) h1 := rfl
@[simp] theorem ap_fn {g : GL} {a : MA} : mFn g a s h = (a s h).bind fun a h1 => ofO (g a h1) h1 := rfl
@[simp] theorem ap_nil : mNil s h = .ok [] h := rfl
@[simp] theorem ap_cons {a : ME} {r : MA} : mCons a r s h = (a s h).bind fun x h1 => (r s h1).bind fun xs h2 => .ok (x :: xs) h2 := rfl
@[simp] theorem ap_test {m : ME} : mTest m s h = (m s h).bind fun a h1 => match a with
  | .bl b => .ok b h1
  | _ => .stk := rfl
@[simp] theorem ap_and {a b : MT} : mAnd a b s h = (a s h).bind fun x h1 => if x = true then b s h1 else .ok false h1 := rfl
@[simp] theorem ap_or {a b : MT} : mOr a b s h = (a s h).bind fun x h1 => if x = true then .ok true h1 else b s h1 := rfl
@[simp] theorem ap_not {a : MT} : mNot a s h = (a s h).bind fun x h1 => .ok (!x) h1 := rfl
@[simp] theorem ap_if {c : MT} {a b : ME} : mIf c a b s h = (c s h).bind fun x h1 => if x = true then a s h1 else b s h1 := rfl
@[simp] theorem ap_call {g : Fn} {m : MA} : mCall g m s h = (m s h).bind g := rfl
@[simp] theorem ap_told {cl : List (Str × Str)} {m : ME} : mTold cl m s h = match m s h with
  | .ok a h1 => .ok a h1
  | .exc c _ h1 => match cl.lookup c with
    | some r => .ok (.str r) h1
    | none => .stk
  | .stk => .stk := rfl
@[simp] theorem ap_makeF {c : Str} {gi : List AV → AH → Rs (List (Str × AV))} {m : MA} : mMakeF c gi m s h = (m s h).bind fun as h1 => (gi as h1).bind fun fs h2 => .ok (.ins c fs) h2 := rfl
@[simp] theorem ap_lstM {m : MA} : mLstM m s h = (m s h).bind fun xs h1 => if xs.length ≤ sizeLine then .ok (.ref h1.length) (h1 ++ [.lst xs]) else .stk := rfl
@[simp] theorem ap_listM {m : MA} : mListM m s h = (m s h).bind fun as h1 => match as with
  | [a] => match vSq h1 a with
    | some xs => .ok (.ref h1.length) (h1 ++ [.lst xs])
    | none => .stk
  | _ => .stk := rfl
@[simp] theorem ap_bm {ty : AV → AH → Bool} {g : GM} {mo : ME} {ma : MA} : mBM ty g mo ma s h = (mo s h).bind fun a h1 => if ty a h1 = true then (ma s h1).bind fun as h2 => match g a as h2 with
  | some (c, h3) => .ok c h3
  | none => .stk
  else .stk := rfl
@[simp] theorem ap_meth {c m : Str} {g : Fn} {mo : ME} {ma : MA} : mMeth c m g mo ma s h = (mo s h).bind fun a h1 => match vIns c h1 a with
  | some fs => if (fs.lookup m).isNone = true then (ma s h1).bind fun as h2 => g (a :: as) h2 else .stk
  | none => .stk := rfl
@[simp] theorem ap_for {mi : MI} {t : Gt} {b : MS} : mFor mi t b s h = (mi s h).toS s fun rd h1 => forL rd t b (rdLen rd h1) 0 s h1 := rfl
@[simp] theorem ap_while {f : Sl → AH → Nat} {c : MT} {b : MS} : mWhile f c b s h = whileL c b (f s h) s h := rfl
@[simp] theorem ap_lc {mi : MI} {t : Gt} {c : MT} {e : ME} {vs : List Nat} : mLc mi t c e vs s h = ((mi s h).bind fun rd h1 => lcL rd t c e (wipeA s vs) (rdLen rd h1) 0 [] h1).bind fun xs h1 => .ok (.lst xs) h1 := rfl
@[simp] theorem ap_lcM {mi : MI} {t : Gt} {c : MT} {e : ME} {vs : List Nat} : mLcM mi t c e vs s h = ((mi s h).bind fun rd h1 => lcL rd t c e (wipeA s vs) (rdLen rd h1) 0 [] h1).bind fun xs h1 => .ok (.ref h1.length) (h1 ++ [.lst xs]) := rfl
@[simp] theorem ap_sq {m : ME} : mSq m s h = (m s h).bind fun a h1 => match vLR h1 a with
  | some _ => Rs.ok (α := Rd) (fun h => vLR h a) h1
  | none => .stk := rfl
@[simp] theorem ap_sqT {m : ME} : mSqT m s h = (m s h).bind fun a h1 => match vT a with
  | some xs => Rs.ok (α := Rd) (fun _ => some xs) h1
  | none => .stk := rfl
@[simp] theorem ap_sqA {m : ME} : mSqA m s h = (m s h).bind fun a h1 => match vT a with
  | some xs => .ok (rdC xs) h1
  | none => match vLR h1 a with
    | some _ => Rs.ok (α := Rd) (fun h => vLR h a) h1
    | none => .stk := rfl
def rg1K : List AV → AH → Rs Rd := fun xs h1 => match xs with
  | [.int j] => if okN j then .ok (rdC (upL 0 1 j.toNat)) h1 else .stk
  | _ => .stk
def rg2K : List AV → AH → Rs Rd := fun xs h1 => match xs with
  | [.int i, .int j] => if okN i ∧ okN j then .ok (rdC (upL i 1 (j - i).toNat)) h1 else .stk
  | _ => .stk
def rg3K : List AV → AH → Rs Rd := fun xs h1 => match xs with
  | [.int i, .int j, .int c] => if RgC i j c (rgN i j c) then .ok (rdC (upL i c (rgN i j c))) h1 else .stk
  | _ => .stk
@[simp] theorem ap_rg1 {m : MA} : mRg1 m s h = (m s h).bind rg1K := rfl
@[simp] theorem ap_rg2 {m : MA} : mRg2 m s h = (m s h).bind rg2K := rfl
@[simp] theorem ap_rg3 {m : MA} : mRg3 m s h = (m s h).bind rg3K := rfl
@[simp] theorem rg1_ok {j : Int} (o : okN j) : rg1K [.int j] h = .ok (rdC (upL 0 1 j.toNat)) h := if_pos o
@[simp] theorem rg2_ok {i j : Int} (oi : okN i) (oj : okN j) : rg2K [.int i, .int j] h = .ok (rdC (upL i 1 (j - i).toNat)) h := if_pos ⟨oi, oj⟩
@[simp] theorem rg3_ok {i j c : Int} (o : RgC i j c (rgN i j c)) : rg3K [.int i, .int j, .int c] h = .ok (rdC (upL i c (rgN i j c))) h := if_pos o
@[simp] theorem ap_rev {m : ME} : mRev m s h = (m s h).bind fun a h1 => match a with
  | .lst xs => .ok (rdC xs.reverse) h1
  | .rdl xs => .ok (rdC xs.reverse) h1
  | .tup xs => .ok (rdC xs.reverse) h1
  | .rdt xs => .ok (rdC xs.reverse) h1
  | _ => .stk := rfl
@[simp] theorem ap_enum {m : MA} : mEnum m s h = (m s h).bind fun as h1 => match as with
  | [a] => match vLR h1 a with
    | some _ => Rs.ok (α := Rd) (fun h => (vLR h a).map enumL) h1
    | none => .stk
  | _ => .stk := rfl
@[simp] theorem ap_sl {ma : ME} {ml mh : Sl → AH → Rs (Option Int)} : mSl ma ml mh s h = (ma s h).bind fun a h1 => (ml s h1).bind fun lo h2 => (mh s h2).bind fun hi h3 => ofO (gSl a lo hi h3) h3 := rfl
@[simp] theorem ap_chain {g g' : G2} {ma mb mc : ME} : mChain g g' ma mb mc s h = (ma s h).bind fun a h1 => (mb s h1).bind fun b h2 => match g a b h2 with
  | some (.bl true) => (mc s h2).bind fun c h3 => ofO (g' b c h3) h3
  | some (.bl false) => .ok (.bl false) h2
  | _ => .stk := rfl
@[simp] theorem ap_andE {a b : ME} : mAndE a b s h = (a s h).bind fun x h1 => match x with
  | .bl true => b s h1
  | .bl false => .ok (.bl false) h1
  | _ => .stk := rfl
@[simp] theorem ap_fldSet {c f : Str} {mo mv : ME} : mFldSet c f mo mv s h = (mv s h).toS s fun v h1 => (mo s h1).toS s fun o h2 => match o with
  | .ref n => match h2[n]? with
    | some (.ins d fs) => if d = c ∧ fs.length < 1000 then .nx s (h2.set n (.ins c (putA f v fs))) else .stk
    | _ => .stk
  | _ => .stk := rfl
@[simp] theorem ap_subSet {mo mi mv : ME} : mSubSet mo mi mv s h = (mv s h).toS s fun v h1 => (mo s h1).toS s fun o h2 => (mi s h2).toS s fun i h3 => match gSet o i v h3 with
  | some h4 => .nx s h4
  | none => .stk := rfl
@[simp] theorem gAdd_int {i j : Int} : gAdd (.int i) (.int j) h = some (.int (i + j)) := rfl
@[simp] theorem gAddI_int {i j : Int} : gAddI (.int i) (.int j) h = some (.int (i + j)) := rfl
@[simp] theorem gSub_int {i j : Int} : gSub (.int i) (.int j) h = some (.int (i - j)) := rfl
@[simp] theorem gAddQ_int {i j : Int} : gAddQ (.int i) (.int j) h = some (.int (i + j)) := rfl
theorem gMul_int {i j : Int} (c : CMul i j) : gMul (.int i) (.int j) h = some (.int (i * j)) := if_pos c
theorem gDiv_int {i j : Int} (c : CDiv i j) : gDiv (.int i) (.int j) h = some (.int (i / j)) := if_pos c
theorem gMod_int {i j : Int} (c : 0 < j) : gMod (.int i) (.int j) h = some (.int (i % j)) := if_pos c
@[simp] theorem gNeg_int {i : Int} : gNeg (.int i) h = some (.int (-i)) := rfl
@[simp] theorem gLt_int {i j : Int} : gLt (.int i) (.int j) h = some (.bl (decide (i < j))) := rfl
@[simp] theorem gLe_int {i j : Int} : gLe (.int i) (.int j) h = some (.bl (decide (i ≤ j))) := rfl
@[simp] theorem gGt_int {i j : Int} : gGt (.int i) (.int j) h = some (.bl (decide (j < i))) := rfl
@[simp] theorem gGe_int {i j : Int} : gGe (.int i) (.int j) h = some (.bl (decide (j ≤ i))) := rfl
@[simp] theorem gLtQ_int {i j : Int} : gLtQ (.int i) (.int j) h = some (.bl (decide (i < j))) := rfl
@[simp] theorem gLeQ_int {i j : Int} : gLeQ (.int i) (.int j) h = some (.bl (decide (i ≤ j))) := rfl
@[simp] theorem gGtQ_int {i j : Int} : gGtQ (.int i) (.int j) h = some (.bl (decide (j < i))) := rfl
@[simp] theorem gGeQ_int {i j : Int} : gGeQ (.int i) (.int j) h = some (.bl (decide (j ≤ i))) := rfl
theorem eqv_int (i j : Int) : PyData.eqv (.int i) (.int j) = decide (i = j) := by
  show (i == j) = _
  by_cases e : i = j
  · subst e; simp
  · simp [e]
@[simp] theorem gEq_int {i j : Int} {neg : Bool} : gEq neg (.int i) (.int j) h = some (.bl (if neg then !decide (i = j) else decide (i = j))) := by
  unfold gEq
  have ok : okD (pyv h (.int i)) (pyv h (.int j)) = true := rfl
  rw [if_pos ok]
  show some (AV.bl (if neg = true then !PyData.eqv (.int i) (.int j) else PyData.eqv (.int i) (.int j))) = _
  rw [eqv_int]
/-- empty or not -/
theorem eqv_nil_l (ds : List PyData) : PyData.eqv (.list ds) (.list []) = ds.isEmpty := by
  cases ds with
  | nil => rfl
  | cons d r => rfl
theorem eqv_nil_t (ds : List PyData) : PyData.eqv (.tuple ds) (.tuple []) = ds.isEmpty := by
  cases ds with
  | nil => rfl
  | cons d r => rfl
@[simp] theorem snoc_at {α : Type} {l : List α} {x : α} : (l ++ [x])[l.length]? = some x := getElem?_snoc l x
@[simp] theorem snoc_set {α : Type} {l : List α} {x y : α} : (l ++ [x]).set l.length y = l ++ [y] := by
  rw [List.set_append_right _ _ (Nat.le_refl _), Nat.sub_self]
  rfl
end
end NC
end S3
end
section
set_option Elab.async false
set_option linter.all false
set_option maxRecDepth 100000
set_option maxHeartbeats 4000000
namespace S3
open PySem PySem.Spec PyProof.Rows L2
noncomputable section NC
def forC (t : Gt) (b : MS) : List AV → MS
  | [] => fun s h => .nx s h
  | x :: xs => fun s h => match t x s h with
    | none => .stk
    | some s1 => (b s1 h).lp (forC t b xs)
theorem forL_drop {rd : Rd} {xs : List AV} {t : Gt} {b : MS} (hrd : ∀ h, rd h = some xs) : ∀ (n i : Nat), n + i = xs.length → forL rd t b n i = forC t b (xs.drop i)
  | 0, i, e => by
    have e0 : xs[i]? = none := List.getElem?_eq_none (by omega)
    rw [List.drop_eq_nil_of_le (by omega)]
    funext s h
    unfold forL forC
    rw [hrd h]
    simp only [e0]
  | n + 1, i, e => by
    have hi : i < xs.length := by omega
    rw [List.drop_eq_getElem_cons hi]
    funext s h
    unfold forL forC
    rw [hrd h]
    simp only [List.getElem?_eq_getElem hi, forL_drop hrd n (i + 1) (by omega)]
    all_goals (cases t xs[i] s h <;> rfl)
theorem forL_const {rd : Rd} {xs : List AV} {t : Gt} {b : MS} {s : Sl} {h : AH} (hrd : ∀ h, rd h = some xs) : forL rd t b (rdLen rd h) 0 s h = forC t b xs s h := by
  have e : rdLen rd h = xs.length := by unfold rdLen; rw [hrd]
  rw [e, forL_drop hrd xs.length 0 (by omega)]
  rfl
@[simp] theorem forL_rdC {xs : List AV} {t : Gt} {b : MS} {s : Sl} {h : AH} : forL (rdC xs) t b (rdLen (rdC xs) h) 0 s h = forC t b xs s h := forL_const fun _ => rfl
@[simp] theorem forL_some {xs : List AV} {t : Gt} {b : MS} {s : Sl} {h : AH} : forL (fun _ => some xs) t b (rdLen (fun _ => some xs) h) 0 s h = forC t b xs s h := forL_const fun _ => rfl
@[simp] theorem vLR_rdl {xs : List AV} {h : AH} : vLR h (.rdl xs) = some xs := rfl
@[simp] theorem vLR_lst {xs : List AV} {h : AH} : vLR h (.lst xs) = some xs := rfl
@[simp] theorem vT_tup {xs : List AV} : vT (.tup xs) = some xs := rfl
@[simp] theorem vT_rdt {xs : List AV} : vT (.rdt xs) = some xs := rfl
@[simp] theorem vT_lst {xs : List AV} : vT (.lst xs) = none := rfl
@[simp] theorem vT_rdl {xs : List AV} : vT (.rdl xs) = none := rfl
@[simp] theorem vT_ref {n : Nat} : vT (.ref n) = none := rfl
@[simp] theorem vSq_tup {xs : List AV} {h : AH} : vSq h (.tup xs) = some xs := rfl
@[simp] theorem vSq_lst {xs : List AV} {h : AH} : vSq h (.lst xs) = some xs := rfl
@[simp] theorem vSq_rdl {xs : List AV} {h : AH} : vSq h (.rdl xs) = some xs := rfl
@[simp] theorem forC_nil {t : Gt} {b : MS} {s : Sl} {h : AH} : forC t b [] s h = .nx s h := rfl
theorem forC_cons {t : Gt} {b : MS} {x : AV} {xs : List AV} {s s1 : Sl} {h : AH} (e : t x s h = some s1) : forC t b (x :: xs) s h = (b s1 h).lp (forC t b xs) := by
  show (match t x s h with
    | none => Ss.stk
    | some s1 => (b s1 h).lp (forC t b xs)) = _
  rw [e]
@[simp] theorem pairA_tup {a b : AV} : pairA (.tup [a, b]) = some (a, b) := rfl
def lcC (t : Gt) (c : MT) (e : ME) (s0 : Sl) : List AV → List AV → AH → Rs (List AV)
  | [], acc, h => .ok acc h
  | x :: xs, acc, h => match t x s0 h with
    | none => .stk
    | some s1 => match c s1 h with
      | .ok b h1 => if b = true then match e s1 h1 with
          | .ok y h2 => if acc.length < sizeLine then lcC t c e s0 xs (acc ++ [y]) h2 else .stk
          | _ => .stk
        else lcC t c e s0 xs acc h1
      | _ => .stk
theorem lcL_drop {rd : Rd} {xs : List AV} {t : Gt} {c : MT} {e : ME} {s0 : Sl} (hrd : ∀ h, rd h = some xs) : ∀ (n i : Nat) (acc : List AV) (h : AH), n + i = xs.length → lcL rd t c e s0 n i acc h = lcC t c e s0 (xs.drop i) acc h
  | 0, i, acc, h, en => by
    have e0 : xs[i]? = none := List.getElem?_eq_none (by omega)
    rw [List.drop_eq_nil_of_le (by omega)]
    unfold lcL lcC
    rw [hrd h]
    simp only [e0]
  | n + 1, i, acc, h, en => by
    have hi : i < xs.length := by omega
    have ih := fun acc h => lcL_drop (t := t) (c := c) (e := e) (s0 := s0) hrd n (i + 1) acc h (by omega)
    rw [List.drop_eq_getElem_cons hi]
    unfold lcL lcC
    rw [hrd h]
    simp only [List.getElem?_eq_getElem hi, ih]
    all_goals (cases t xs[i] s0 h <;> rfl)
theorem lcL_const {rd : Rd} {xs : List AV} {t : Gt} {c : MT} {e : ME} {s0 : Sl} {h : AH} (hrd : ∀ h, rd h = some xs) : lcL rd t c e s0 (rdLen rd h) 0 [] h = lcC t c e s0 xs [] h := by
  have el : rdLen rd h = xs.length := by unfold rdLen; rw [hrd]
  rw [el, lcL_drop hrd xs.length 0 _ _ (by omega)]
  rfl
@[simp] theorem lcL_rdC {xs : List AV} {t : Gt} {c : MT} {e : ME} {s0 : Sl} {h : AH} : lcL (rdC xs) t c e s0 (rdLen (rdC xs) h) 0 [] h = lcC t c e s0 xs [] h := lcL_const fun _ => rfl
@[simp] theorem lcL_some {xs : List AV} {t : Gt} {c : MT} {e : ME} {s0 : Sl} {h : AH} : lcL (fun _ => some xs) t c e s0 (rdLen (fun _ => some xs) h) 0 [] h = lcC t c e s0 xs [] h := lcL_const fun _ => rfl
theorem lcC_map {τ : Type} {t : Gt} {c : MT} {e : ME} {s0 : Sl} {h : AH} (enc : τ → AV) (p : τ → Bool) (g : τ → AV) : ∀ (L : List τ) (acc : List AV), (∀ x ∈ L, ∃ s1, t (enc x) s0 h = some s1 ∧ c s1 h = .ok (p x) h ∧ (p x = true → e s1 h = .ok (g x) h)) → acc.length + L.length ≤ sizeLine → lcC t c e s0 (L.map enc) acc h = .ok (acc ++ (L.filter p).map g) h
  | [], acc, _, _ => by
    show Rs.ok acc h = _
    simp
  | x :: L, acc, H, hl => by
    obtain ⟨s1, e1, e2, e3⟩ := H x List.mem_cons_self
    have hl' : acc.length + L.length + 1 ≤ sizeLine := hl
    have ih := fun acc' => lcC_map enc p g L acc' fun y hy => H y (List.mem_cons_of_mem _ hy)
    simp only [List.map_cons]
    unfold lcC
    simp only [e1, e2]
    cases hp : p x with
    | true =>
      simp only [hp, e3 hp, if_true]
      rw [if_pos (by omega), ih _ (by rw [List.length_append]; simp only [List.length_singleton]; omega), List.filter_cons_of_pos hp, List.map_cons, List.append_assoc]
      rfl
    | false =>
      simp only [Bool.false_eq_true, if_false]
      rw [ih _ (by omega), List.filter_cons_of_neg (by rw [hp]; exact Bool.false_ne_true)]
section
variable {s : Sl} {h : AH}
@[simp] theorem aq_c {a : AV} : qC a s h = some a := rfl
@[simp] theorem aq_var {i : Nat} : qVar i s h = (s[i]?).join := rfl
@[simp] theorem aq_bin {g : G2} {a b : QE} : qBin g a b s h = (a s h).bind fun x => (b s h).bind fun y => g x y h := rfl
@[simp] theorem aq_un {g : G1} {a : QE} : qUn g a s h = (a s h).bind fun x => g x h := rfl
@[simp] theorem aq_test {a : QE} : qTest a s h = (a s h).bind fun x => match x with
  | .bl b => some b
  | _ => none := rfl
@[simp] theorem aq_chain {g g' : G2} {a b c : QE} : qChain g g' a b c s h = (a s h).bind fun x => (b s h).bind fun y => match g x y h with
  | some (.bl true) => (c s h).bind fun z => g' y z h
  | some (.bl false) => some (.bl false)
  | _ => none := rfl
end
theorem items_map {τ : Type} {tv : AV → Option Bool} {ev : AV → Option AV} (enc : τ → AV) (p : τ → Bool) (g : τ → AV) : ∀ (L : List τ), (∀ x ∈ L, tv (enc x) = some (p x) ∧ (p x = true → ev (enc x) = some (g x))) → itemsOk (L.map enc) tv ev = true ∧ (L.map enc).filterMap (itemG tv ev) = (L.filter p).map g
  | [], _ => ⟨rfl, rfl⟩
  | x :: L, H => by
    obtain ⟨e1, e2⟩ := H x List.mem_cons_self
    obtain ⟨i1, i2⟩ := items_map (tv := tv) (ev := ev) enc p g L fun y hy => H y (List.mem_cons_of_mem _ hy)
    unfold itemsOk at i1 ⊢
    cases hp : p x with
    | true =>
      refine ⟨?_, ?_⟩
      · simp only [List.map_cons, List.all_cons, e1, hp, e2 hp, i1]
        rfl
      · have eg : itemG tv ev (enc x) = some (g x) := by
          unfold itemG
          rw [e1, hp, if_pos rfl, e2 hp]
        rw [List.map_cons, List.filterMap_cons_some eg, i2, List.filter_cons_of_pos hp, List.map_cons]
    | false =>
      refine ⟨?_, ?_⟩
      · simp only [List.map_cons, List.all_cons, e1, hp, i1]
        rfl
      · have eg : itemG tv ev (enc x) = none := by
          unfold itemG
          rw [e1, hp, if_neg (by simp)]
        rw [List.map_cons, List.filterMap_cons_none eg, i2, List.filter_cons_of_neg (by rw [hp]; exact Bool.false_ne_true)]
theorem genU_map {τ : Type} {fin : List AV → Option AV} {mi : MA} {i i' : Nat} {qt : QT} {qe : QE} {s : Sl} {h h1 : AH} (enc k1 k2 : τ → AV) (p : τ → Bool) (g : τ → AV) (L : List τ) (e : mi s h = .ok (L.map enc) h1) (H : ∀ x ∈ L, pairA (enc x) = some (k1 x, k2 x) ∧ qt ((s.set i (some (k1 x))).set i' (some (k2 x))) h1 = some (p x) ∧ (p x = true → qe ((s.set i (some (k1 x))).set i' (some (k2 x))) h1 = some (g x))) : mGenU fin mi i i' qt qe s h = ofO (fin ((L.filter p).map g)) h1 := by
  unfold mGenU
  rw [e]
  obtain ⟨i1, i2⟩ := items_map (tv := fun y => (pairA y).bind fun p => qt ((s.set i (some p.1)).set i' (some p.2)) h1) (ev := fun y => (pairA y).bind fun p => qe ((s.set i (some p.1)).set i' (some p.2)) h1) enc p g L fun x hx => by
    obtain ⟨a, b, c⟩ := H x hx
    refine ⟨?_, fun z => ?_⟩
    · simp only [a]; exact b
    · simp only [a]; exact c z
  show (if _ then _ else _) = _
  rw [if_pos i1, i2]
theorem genN_map {τ : Type} {fin : List AV → Option AV} {mi : MA} {i : Nat} {qt : QT} {qe : QE} {s : Sl} {h h1 : AH} (enc : τ → AV) (p : τ → Bool) (g : τ → AV) (L : List τ) (e : mi s h = .ok (L.map enc) h1) (H : ∀ x ∈ L, qt (s.set i (some (enc x))) h1 = some (p x) ∧ (p x = true → qe (s.set i (some (enc x))) h1 = some (g x))) : mGenN fin mi i qt qe s h = ofO (fin ((L.filter p).map g)) h1 := by
  unfold mGenN
  rw [e]
  obtain ⟨i1, i2⟩ := items_map (tv := fun a => qt (s.set i (some a)) h1) (ev := fun a => qe (s.set i (some a)) h1) enc p g L H
  show (if _ then _ else _) = _
  rw [if_pos i1, i2]
@[simp] theorem bls_map {α : Type} {f : α → Bool} : ∀ {L : List α}, blsOf (L.map fun x => AV.bl (f x)) = some (L.map f)
  | [] => rfl
  | x :: L => by
    show (blsOf (L.map fun x => AV.bl (f x))).map (f x :: ·) = _
    rw [bls_map]; rfl
@[simp] theorem ints_map {α : Type} {f : α → Int} : ∀ {L : List α}, intsOf (L.map fun x => AV.int (f x)) = some (L.map f)
  | [] => rfl
  | x :: L => by
    show (intsOf (L.map fun x => AV.int (f x))).map (f x :: ·) = _
    rw [ints_map]; rfl
/-- yes throughout -/
@[simp] theorem filter_yes {α : Type} {L : List α} : (L.filter fun _ => true) = L := List.filter_eq_self.mpr fun _ _ => rfl
end NC
end S3
end
section
set_option Elab.async false
set_option linter.all false
set_option maxRecDepth 100000
set_option maxHeartbeats 4000000
namespace S3
open PySem PySem.Spec PyProof.Rows L2
noncomputable section NC
theorem LVs.of {n : Nat} : ∀ {xs : List AV}, (∀ x ∈ xs, LV n x) → LVs n xs
  | [], _ => trivial
  | x :: xs, H => ⟨H x List.mem_cons_self, LVs.of fun y hy => H y (List.mem_cons_of_mem _ hy)⟩
theorem closed_set {h : AH} {n : Nat} {xs : List AV} (cl : Closed h) (l : ∀ n, LVs n xs) : Closed (h.set n (.lst xs)) := by
  intro i o e
  rw [List.length_set]
  rw [List.getElem?_set] at e
  split at e
  · split at e
    · cases e; exact l _
    · cases e
  · exact cl i o e
def Flat (n : Nat) (a : AV) : Prop := (py a).plain = true ∧ (py a).depth ≤ n
theorem flat_all {n : Nat} : ∀ {xs : List AV}, (∀ x ∈ xs, Flat n x) → PyData.plainAll (pys xs) = true ∧ PyData.depthAll (pys xs) ≤ n
  | [], _ => ⟨by simp [pys, PyData.plainAll], by simp [pys, PyData.depthAll]⟩
  | x :: xs, H => by
    obtain ⟨a, b⟩ := flat_all fun y hy => H y (List.mem_cons_of_mem _ hy)
    obtain ⟨c, d⟩ := H x List.mem_cons_self
    refine ⟨by simp [pys, PyData.plainAll, a, c], by simp [pys, PyData.depthAll]; omega⟩
theorem flat_int {n : Nat} {i : Int} : Flat (n + 1) (.int i) := ⟨by simp [py, PyData.plain], by simp [py, PyData.depth]⟩
theorem flat_str {n : Nat} {x : Str} : Flat (n + 1) (.str x) := ⟨by simp [py, PyData.plain], by simp [py, PyData.depth]⟩
theorem flat_bl {n : Nat} {b : Bool} : Flat (n + 1) (.bl b) := ⟨by simp [py, PyData.plain], by simp [py, PyData.depth]⟩
theorem flat_tup {n : Nat} {xs : List AV} (H : ∀ x ∈ xs, Flat n x) : Flat (n + 1) (.tup xs) := by
  obtain ⟨a, b⟩ := flat_all H
  exact ⟨by simp [py, PyData.plain, a], by simp [py, PyData.depth]; omega⟩
theorem flat_lst {n : Nat} {xs : List AV} (H : ∀ x ∈ xs, Flat n x) : Flat (n + 1) (.lst xs) := by
  obtain ⟨a, b⟩ := flat_all H
  exact ⟨by simp [py, PyData.plain, a], by simp [py, PyData.depth]; omega⟩
theorem eq_nilT {h : AH} {xs : List AV} {neg : Bool} (f : Flat 60 (.tup xs)) : gEq neg (.tup xs) (.tup []) h = some (.bl (if neg then !xs.isEmpty else xs.isEmpty)) := by
  unfold gEq
  have e1 : pyv h (.tup xs) = .tuple (pys xs) := by simp [pyv, py]
  have e2 : pyv h (.tup []) = .tuple [] := by simp [pyv, py, pys]
  have ok : okD (pyv h (.tup xs)) (pyv h (.tup [])) = true := by
    unfold okD
    rw [e2, show pyv h (.tup xs) = py (.tup xs) by simp [pyv], f.1]
    have := f.2
    simp [PyData.plain, PyData.plainAll]
    omega
  rw [if_pos ok, e1, e2, eqv_nil_t]
  cases xs <;> cases neg <;> simp [pys]
theorem eq_nilL' {h : AH} {a : AV} {xs : List AV} {neg : Bool} (f : Flat 60 (.lst xs)) (e1 : pyv h a = .list (pys xs)) : gEq neg a (.lst []) h = some (.bl (if neg then !xs.isEmpty else xs.isEmpty)) := by
  unfold gEq
  have e2 : pyv h (.lst []) = .list [] := by simp [pyv, py, pys]
  have ok : okD (pyv h a) (pyv h (.lst [])) = true := by
    unfold okD
    rw [e2, e1, show PyData.list (pys xs) = py (.lst xs) by simp [py], f.1]
    have := f.2
    simp [PyData.plain, PyData.plainAll]
    omega
  rw [if_pos ok, e1, e2, eqv_nil_l]
  cases xs <;> cases neg <;> simp [pys]
theorem eq_nilL {h : AH} {xs : List AV} {neg : Bool} (f : Flat 60 (.lst xs)) : gEq neg (.lst xs) (.lst []) h = some (.bl (if neg then !xs.isEmpty else xs.isEmpty)) := eq_nilL' f (by simp [pyv, py])
theorem eq_nilD {h : AH} {xs : List AV} {neg : Bool} (f : Flat 60 (.lst xs)) : gEq neg (.rdl xs) (.lst []) h = some (.bl (if neg then !xs.isEmpty else xs.isEmpty)) := eq_nilL' f (by simp [pyv, py])
theorem eq_nilR {h : AH} {n : Nat} {xs : List AV} {neg : Bool} (e : h[n]? = some (.lst xs)) (f : Flat 60 (.lst xs)) : gEq neg (.ref n) (.lst []) h = some (.bl (if neg then !xs.isEmpty else xs.isEmpty)) := eq_nilL' f (by simp only [pyv, e])
section
variable {h : AH} {xs ys : List AV} {n : Nat} {i : Int}
@[simp] theorem ix_tup : gIx (.tup xs) (.int i) h = atI xs i := rfl
@[simp] theorem ix_lst : gIx (.lst xs) (.int i) h = atI xs i := rfl
@[simp] theorem ix_rdl : gIx (.rdl xs) (.int i) h = atI xs i := rfl
theorem vLR_ref (e : h[n]? = some (.lst xs)) : vLR h (.ref n) = some xs := by
  show vL h (.ref n) = _
  simp only [vL, e]
theorem vSq_ref (e : h[n]? = some (.lst xs)) : vSq h (.ref n) = some xs := vLR_ref e
theorem ix_ref (e : h[n]? = some (.lst xs)) : gIx (.ref n) (.int i) h = atI xs i := by
  have hd : vD h (.ref n) = none := by simp only [vD, e]
  unfold gIx dGet
  simp only [hd, vT, vLR_ref e]
@[simp] theorem atI_0 {α : Type} {a : α} {r : List α} : atI (a :: r) 0 = some a := by
  unfold atI ixN
  simp
@[simp] theorem atI_1 {α : Type} {a b : α} {r : List α} : atI (a :: b :: r) 1 = some b := by
  unfold atI ixN
  simp
  rw [if_pos (by omega)]
  rfl
@[simp] theorem atI_2 {α : Type} {a b c : α} {r : List α} : atI (a :: b :: c :: r) 2 = some c := by
  unfold atI ixN
  simp
  rw [if_pos (by omega)]
  rfl
theorem atI_nat {α : Type} {l : List α} (hi : 0 ≤ i) : atI l i = l[i.toNat]? := by
  unfold atI ixN
  rw [if_pos hi]
  split
  · rfl
  · rw [List.getElem?_eq_none (by omega)]
    rfl
@[simp] theorem atI_last {α : Type} {l : List α} : atI l (-1) = l.getLast? := by
  unfold atI ixN
  rw [if_neg (by omega), List.getLast?_eq_getElem?]
  cases l with
  | nil => simp
  | cons a r =>
    rw [if_pos (by simp only [List.length_cons]; omega)]
    show (a :: r)[_]? = _
    congr 1
    simp only [List.length_cons]
    omega
theorem cut_init : cutA xs none (some (-1)) = xs.dropLast := by
  unfold cutA HT.sIx
  simp only [show (-1 : Int) < 0 from by omega, if_true, List.drop_zero, Nat.sub_zero]
  rw [List.dropLast_eq_take]
  congr 1
  omega
theorem cut_to (hi : 0 ≤ i) : cutA xs none (some i) = xs.take i.toNat := by
  unfold cutA HT.sIx
  simp only [if_neg (show ¬ i < 0 by omega), List.drop_zero, Nat.sub_zero]
  by_cases hl : i.toNat ≤ xs.length
  · rw [Nat.min_eq_left hl]
  · rw [Nat.min_eq_right (by omega), List.take_length, List.take_of_length_le (by omega)]
theorem cut_from (hi : 0 ≤ i) : cutA xs (some i) none = xs.drop i.toNat := by
  unfold cutA HT.sIx
  simp only [if_neg (show ¬ i < 0 by omega)]
  rw [List.take_of_length_le (by simp)]
  by_cases hl : i.toNat ≤ xs.length
  · rw [Nat.min_eq_left hl]
  · rw [Nat.min_eq_right (by omega), List.drop_length, List.drop_eq_nil_of_le (by omega)]
@[simp] theorem sl_tup {lo hi : Option Int} : gSl (.tup xs) lo hi h = some (.tup (cutA xs lo hi)) := rfl
@[simp] theorem sl_lst {lo hi : Option Int} : gSl (.lst xs) lo hi h = some (.lst (cutA xs lo hi)) := rfl
@[simp] theorem sl_rdl {lo hi : Option Int} : gSl (.rdl xs) lo hi h = some (.lst (cutA xs lo hi)) := rfl
@[simp] theorem ap_noPart {s : Sl} : mNoPart s h = .ok none h := rfl
@[simp] theorem ap_part {s : Sl} {m : ME} : mPart m s h = (m s h).bind fun a h1 => match a with
  | .int i => .ok (some i) h1
  | _ => .stk := rfl
theorem tup_ok (l : xs.length ≤ sizeLine) : gTup xs h = some (.tup xs) := if_pos l
theorem lst_ok (l : xs.length ≤ sizeLine) : gLst xs h = some (.lst xs) := if_pos l
theorem addT_ok (l : xs.length + ys.length ≤ sizeLine) : gAdd (.tup xs) (.tup ys) h = some (.tup (xs ++ ys)) := by
  show (if _ then _ else _) = _
  rw [if_pos l]
theorem addL_ok (l : xs.length + ys.length ≤ sizeLine) : gAdd (.lst xs) (.lst ys) h = some (.lst (xs ++ ys)) := by
  show (if _ then _ else _) = _
  rw [if_pos l]
@[simp] theorem len_tup : gLen [.tup xs] h = some (.int (xs.length : Nat)) := rfl
@[simp] theorem len_lst : gLen [.lst xs] h = some (.int (xs.length : Nat)) := rfl
@[simp] theorem len_rdl : gLen [.rdl xs] h = some (.int (xs.length : Nat)) := rfl
theorem len_ref (e : h[n]? = some (.lst xs)) : gLen [.ref n] h = some (.int (xs.length : Nat)) := by
  show (match vSq h (.ref n) with
    | some xs => some (AV.int (xs.length : Nat))
    | none => none) = _
  rw [vSq_ref e]
@[simp] theorem tuple_tup : gTuple [.tup xs] h = some (.tup xs) := rfl
@[simp] theorem tuple_lst : gTuple [.lst xs] h = some (.tup xs) := rfl
@[simp] theorem tuple_rdl : gTuple [.rdl xs] h = some (.tup xs) := rfl
theorem append_ref {a : AV} (e : h[n]? = some (.lst xs)) (l : xs.length < sizeLine) : gAppend (.ref n) [a] h = some (.non, h.set n (.lst (xs ++ [a]))) := by
  show (match h[n]? with
    | some (.lst xs) => if xs.length < sizeLine then some (AV.non, h.set n (.lst (xs ++ [a]))) else none
    | _ => none) = _
  rw [e]
  exact if_pos l
theorem set_ref {a : AV} {j : Nat} (e : h[n]? = some (.lst xs)) (k : ixN xs.length i = some j) : gSet (.ref n) (.int i) a h = some (h.set n (.lst (xs.set j a))) := by
  unfold gSet
  simp only [e, k]
  rfl
theorem pop_ref {a : AV} (e : h[n]? = some (.lst (xs ++ [a]))) : gPop (.ref n) [] h = some (a, h.set n (.lst xs)) := by
  unfold gPop
  simp only [e]
  simp
theorem ixN_last (l : 0 < n) : ixN n (-1) = some (n - 1) := by
  unfold ixN
  rw [if_neg (by omega), if_pos (by omega)]
  congr 1
  omega
end
theorem seqP_ok {τ : Type} {s : Sl} {h h1 : AH} {m : ME} {a : AV} {enc : τ → AV} {L : List τ} (e : m s h = .ok a h1) (v : vSq h1 a = some (L.map enc)) (hp : ∀ x ∈ L, (pairA (enc x)).isSome = true) : mSeqP m s h = .ok (L.map enc) h1 := by
  unfold mSeqP
  rw [e]
  show (match vSq h1 a with
    | some xs => if (xs.all fun x => (pairA x).isSome) = true then Rs.ok xs h1 else .stk
    | none => .stk) = _
  rw [v]
  refine if_pos (List.all_eq_true.mpr fun x hx => ?_)
  obtain ⟨y, hy, rfl⟩ := List.mem_map.mp hx
  exact hp y hy
@[simp] theorem aq_orE {a b : QE} {s : Sl} {h : AH} : qOrE a b s h = (a s h).bind fun x => match x with
  | .bl true => some (.bl true)
  | .bl false => b s h
  | _ => none := rfl
@[simp] theorem aq_andE {a b : QE} {s : Sl} {h : AH} : qAndE a b s h = (a s h).bind fun x => match x with
  | .bl true => b s h
  | .bl false => some (.bl false)
  | _ => none := rfl
@[simp] theorem aq_notE {a : QE} {s : Sl} {h : AH} : qNotE a s h = (a s h).bind fun x => match x with
  | .bl b => some (.bl (!b))
  | _ => none := rfl
section
variable {h : AH} {a b c : AV}
@[simp] theorem tup0 : S3.gTup [] h = some (.tup []) := tup_ok (by unfold sizeLine; simp)
@[simp] theorem tup1 : S3.gTup [a] h = some (.tup [a]) := tup_ok (by unfold sizeLine; simp)
@[simp] theorem tup2 : S3.gTup [a, b] h = some (.tup [a, b]) := tup_ok (by unfold sizeLine; simp)
@[simp] theorem tup3 : S3.gTup [a, b, c] h = some (.tup [a, b, c]) := tup_ok (by unfold sizeLine; simp)
@[simp] theorem lst0 : gLst [] h = some (.lst []) := lst_ok (by unfold sizeLine; simp)
@[simp] theorem lst1 : gLst [a] h = some (.lst [a]) := lst_ok (by unfold sizeLine; simp)
@[simp] theorem lst2 : gLst [a, b] h = some (.lst [a, b]) := lst_ok (by unfold sizeLine; simp)
@[simp] theorem lst3 : gLst [a, b, c] h = some (.lst [a, b, c]) := lst_ok (by unfold sizeLine; simp)
end
@[simp] theorem eq_TT0 {h : AH} {neg : Bool} : gEq neg (.tup []) (.tup []) h = some (.bl (!neg)) := by
  rw [eq_nilT (flat_tup (by simp))]
  cases neg <;> rfl
@[simp] theorem eq_LL0 {h : AH} {neg : Bool} : gEq neg (.lst []) (.lst []) h = some (.bl (!neg)) := by
  rw [eq_nilL (flat_lst (by simp))]
  cases neg <;> rfl
@[simp] theorem eq_DL0 {h : AH} {neg : Bool} : gEq neg (.rdl []) (.lst []) h = some (.bl (!neg)) := by
  rw [eq_nilD (flat_lst (by simp))]
  cases neg <;> rfl
theorem flat_all_iff {n : Nat} : ∀ {xs : List AV}, (PyData.plainAll (pys xs) = true ∧ PyData.depthAll (pys xs) ≤ n) ↔ ∀ x ∈ xs, Flat n x
  | [] => by simp [pys, PyData.plainAll, PyData.depthAll]
  | x :: xs => by
    rw [List.forall_mem_cons, ← flat_all_iff]
    simp [pys, PyData.plainAll, PyData.depthAll, Flat]
    constructor
    · rintro ⟨⟨a, b⟩, c⟩; refine ⟨⟨a, by omega⟩, b, by omega⟩
    · rintro ⟨⟨a, b⟩, c, d⟩; exact ⟨⟨a, c⟩, by omega⟩
def Flats (n : Nat) (xs : List AV) : Prop := ∀ x ∈ xs, Flat n x
@[simp] theorem flats_nil {n : Nat} : Flats n [] ↔ True := iff_true_intro fun x z => by cases z
@[simp] theorem flats_cons {n : Nat} {a : AV} {r : List AV} : Flats n (a :: r) ↔ Flat n a ∧ Flats n r := List.forall_mem_cons
@[simp] theorem flats_app {n : Nat} {xs ys : List AV} : Flats n (xs ++ ys) ↔ Flats n xs ∧ Flats n ys := List.forall_mem_append
@[simp] theorem flat_tup_iff {n : Nat} {xs : List AV} : Flat (n + 1) (.tup xs) ↔ Flats n xs := by
  unfold Flats
  rw [← flat_all_iff]
  simp [Flat, py, PyData.plain, PyData.depth]
@[simp] theorem flat_lst_iff {n : Nat} {xs : List AV} : Flat (n + 1) (.lst xs) ↔ Flats n xs := by
  unfold Flats
  rw [← flat_all_iff]
  simp [Flat, py, PyData.plain, PyData.depth]
@[simp] theorem flat_int_iff {n : Nat} {i : Int} : Flat (n + 1) (.int i) ↔ True := iff_true_intro flat_int
@[simp] theorem flat_str_iff {n : Nat} {x : Str} : Flat (n + 1) (.str x) ↔ True := iff_true_intro flat_str
@[simp] theorem flat_bl_iff {n : Nat} {b : Bool} : Flat (n + 1) (.bl b) ↔ True := iff_true_intro flat_bl
section
variable {h : AH} {xs : List AV} {i : Int} {a : AV}
@[simp] theorem ix_end : gIx (.ref h.length) (.int i) (h ++ [.lst xs]) = atI xs i := ix_ref snoc_at
@[simp] theorem vLR_end : vLR (h ++ [.lst xs]) (.ref h.length) = some xs := vLR_ref snoc_at
@[simp] theorem vSq_end : vSq (h ++ [.lst xs]) (.ref h.length) = some xs := vLR_ref snoc_at
@[simp] theorem len_end : gLen [.ref h.length] (h ++ [.lst xs]) = some (.int (xs.length : Nat)) := len_ref snoc_at
@[simp] theorem tyL_end : tyL (.ref h.length) (h ++ [.lst xs]) = true := by
  simp [tyL]
theorem append_end (l : xs.length < 16777216) : gAppend (.ref h.length) [a] (h ++ [.lst xs]) = some (.non, h ++ [.lst (xs ++ [a])]) := by
  rw [append_ref snoc_at l, snoc_set]
theorem set_end {j : Nat} (k : ixN xs.length i = some j) : gSet (.ref h.length) (.int i) a (h ++ [.lst xs]) = some (h ++ [.lst (xs.set j a)]) := by
  rw [set_ref snoc_at k, snoc_set]
@[simp] theorem set_endL {b : AV} : gSet (.ref h.length) (.int (-1)) a (h ++ [.lst (xs ++ [b])]) = some (h ++ [.lst (xs ++ [a])]) := by
  rw [set_end (j := xs.length) (by rw [ixN_last (by simp)]; simp)]
  simp
@[simp] theorem pop_end : gPop (.ref h.length) [] (h ++ [.lst (xs ++ [a])]) = some (a, h ++ [.lst xs]) := by
  rw [pop_ref snoc_at, snoc_set]
@[simp] theorem eq_nil_end {neg : Bool} (f : Flat 60 (.lst xs)) : gEq neg (.ref h.length) (.lst []) (h ++ [.lst xs]) = some (.bl (if neg then !xs.isEmpty else xs.isEmpty)) := eq_nilR snoc_at f
end
end NC
end S3
end
section
set_option Elab.async false
set_option linter.all false
set_option maxRecDepth 100000
set_option maxHeartbeats 4000000
namespace S3
open PySem PySem.Spec PyProof.Rows L2
noncomputable section NC
end NC
end S3
end
section
set_option Elab.async false
set_option linter.all false
set_option maxRecDepth 100000
set_option maxHeartbeats 4000000
namespace S3
open PySem PySem.Spec PyProof.Rows L2
noncomputable section NC
theorem rgN_size {i j c : Int} (hc : c ≠ 0) : (rgN i j c : Int) = Builtin.Range.rangeSize i j c := by
  unfold rgN Builtin.Range.rangeSize
  by_cases h : 0 < c
  · rw [if_pos h, if_pos h]
    have e : (j - i + c - 1) / c = (j - i - 1) / c + 1 := by
      rw [show j - i + c - 1 = (j - i - 1) + c by omega, Int.add_ediv_of_dvd_right (Int.dvd_refl c), Int.ediv_self hc]
    by_cases hl : i < j
    · rw [if_pos hl, e]
      have : 0 ≤ (j - i - 1) / c := Int.ediv_nonneg (by omega) (by omega)
      omega
    · rw [if_neg hl]
      have : (j - i - 1) / c < 0 := Int.ediv_neg_of_neg_of_pos (by omega) h
      omega
  · have h' : 0 < -c := by omega
    rw [if_neg h, if_neg h]
    have e : (i - j - c - 1) / -c = (i - j - 1) / -c + 1 := by
      rw [show i - j - c - 1 = (i - j - 1) + -c by omega, Int.add_ediv_of_dvd_right (Int.dvd_refl _), Int.ediv_self (by omega)]
    by_cases hl : i > j
    · rw [if_pos hl, e]
      have : 0 ≤ (i - j - 1) / -c := Int.ediv_nonneg (by omega) (by omega)
      omega
    · rw [if_neg hl]
      have : (i - j - 1) / -c < 0 := Int.ediv_neg_of_neg_of_pos (by omega) h'
      omega
theorem size_le {i j c : Int} (hc : c ≠ 0) : 0 ≤ Builtin.Range.rangeSize i j c ∧ Builtin.Range.rangeSize i j c ≤ (j - i).natAbs := by
  unfold Builtin.Range.rangeSize
  by_cases h : 0 < c
  · rw [if_pos h]
    split
    · have h1 := Int.ediv_le_self (a := j - i - 1) c (by omega)
      have h2 : 0 ≤ (j - i - 1) / c := Int.ediv_nonneg (by omega) (by omega)
      omega
    · omega
  · rw [if_neg h]
    split
    · have h1 := Int.ediv_le_self (a := i - j - 1) (-c) (by omega)
      have h2 : 0 ≤ (i - j - 1) / -c := Int.ediv_nonneg (by omega) (by omega)
      omega
    · omega
theorem rgC_ok {i j c : Int} (hc : c ≠ 0) (hc2 : c.natAbs < 1073741824) (hi : -1000000000000 ≤ i ∧ i ≤ 1000000000000) (hj : -1000000000000 ≤ j ∧ j ≤ 1000000000000) : RgC i j c (rgN i j c) := by
  refine ⟨hc, hc2, ?_, (rgN_size hc).symm⟩
  obtain ⟨h1, h2⟩ := size_le (i := i) (j := j) hc
  unfold Builtin.Range.small Builtin.Range.rangeFitsLong
  simp only [Bool.and_eq_true, Bool.or_eq_true, decide_eq_true_eq, beq_iff_eq]
  refine ⟨⟨⟨⟨?_, ?_⟩, ?_⟩, ?_⟩, .inr ?_⟩
  · omega
  · omega
  · omega
  · omega
  · split <;> simp only [Bool.and_eq_true, decide_eq_true_eq] <;> omega
theorem okN_ok {i : Int} (h : -1000000000 ≤ i) (h' : i ≤ 1000000000) : okN i := by
  have e : (2 : Int) ^ 62 = 4611686018427387904 := by decide +kernel
  unfold okN
  rw [e]
  omega
@[simp] theorem ofString_inj {a b : String} : Str.ofString a = Str.ofString b ↔ a = b := by
  refine ⟨fun h => ?_, fun h => by rw [h]⟩
  rw [Str.ofString_eq_toList, Str.ofString_eq_toList] at h
  injection h with h
  have h : a.toList.map Char.toNat = b.toList.map Char.toNat := by simpa using h
  have inj : ∀ (x y : List Char), x.map Char.toNat = y.map Char.toNat → x = y := by
    intro x
    induction x with
    | nil => intro y hy; cases y with
      | nil => rfl
      | cons d y => simp at hy
    | cons c x ih => intro y hy; cases y with
      | nil => simp at hy
      | cons d y =>
        simp only [List.map_cons, List.cons.injEq] at hy
        obtain ⟨h1, h2⟩ := hy
        rw [ih y h2, Char.toNat_inj.mp h1]
  exact String.toList_injective (inj _ _ h)
@[simp] theorem ofString_beq {a b : String} : (Str.ofString a == Str.ofString b) = decide (a = b) := by
  by_cases h : a = b
  · subst h; simp
  · rw [beq_false_of_ne (fun z => h (ofString_inj.mp z)), decide_eq_false h]
@[simp] theorem lookup_hit {v : AV} {k : Str} {r : List (Str × AV)} : ((k, v) :: r).lookup k = some v := by simp [List.lookup]
section
variable {s s1 : Sl} {h h1 h2 : AH}
end
end NC
end S3
end
section
set_option Elab.async false
set_option linter.all false
set_option maxRecDepth 100000
set_option maxHeartbeats 4000000
namespace S3
open PySem PySem.Spec PyProof.Rows L2
noncomputable section NC
class Dt (τ : Type) where
  enc : τ → AV
  dep : Nat
  can : ∀ x, canon (enc x) = true
  pl : ∀ x, (py (enc x)).plain = true
  dp : ∀ x, (py (enc x)).depth ≤ dep
  inj : ∀ x y, PyData.eqv (py (enc x)) (py (enc y)) = true ↔ x = y
  nref : ∀ x (h : AH), pyv h (enc x) = py (enc x)
open Dt (enc)
instance : Dt Int := ⟨.int, 1, fun _ => rfl, fun _ => by simp [py, PyData.plain], fun _ => by simp [py, PyData.depth], fun x y => by show PyData.eqv (.int x) (.int y) = true ↔ _; rw [eqv_int]; simp, fun _ _ => rfl⟩
instance : Dt Str := ⟨.str, 1, fun _ => rfl, fun _ => by simp [py, PyData.plain], fun _ => by simp [py, PyData.depth], fun x y => by show (x == y) = true ↔ _; simp, fun _ _ => rfl⟩
instance : Dt Bool := ⟨.bl, 1, fun _ => rfl, fun _ => by simp [py, PyData.plain], fun _ => by simp [py, PyData.depth], fun x y => by show (x == y) = true ↔ _; simp, fun _ _ => rfl⟩
instance instDtProd {α β : Type} [Dt α] [Dt β] : Dt (α × β) := ⟨fun p => .tup [enc p.1, enc p.2], max (Dt.dep α) (Dt.dep β) + 1, fun x => by simp [canon, canons, Dt.can], fun x => by simp [py, pys, PyData.plain, PyData.plainAll, Dt.pl],
  fun x => by
    have h1 := Dt.dp x.1
    have h2 := Dt.dp x.2
    simp [py, pys, PyData.depth, PyData.depthAll]
    omega, fun x y => by
    obtain ⟨a, b⟩ := x
    obtain ⟨c, d⟩ := y
    show PyData.eqv (.tuple (pys [enc a, enc b])) (.tuple (pys [enc c, enc d])) = true ↔ _
    simp only [pys]
    rw [show PyData.eqv (.tuple [py (enc a), py (enc b)]) (.tuple [py (enc c), py (enc d)]) = PyData.eqvAll [py (enc a), py (enc b)] [py (enc c), py (enc d)] from by rw [PyData.eqv]]
    rw [PySem.W.eqv_all_cons, PySem.W.eqv_all_cons]
    simp [PyData.eqvAll, Dt.inj], fun _ _ => rfl⟩
theorem encs_depth {τ : Type} [Dt τ] : ∀ L : List τ, PyData.depthAll (pys (L.map enc)) ≤ Dt.dep τ
  | [] => by simp [pys, PyData.depthAll]
  | x :: L => by
    have h1 := Dt.dp x
    have h2 := encs_depth L
    simp [pys, PyData.depthAll]
    omega
theorem encs_plain {τ : Type} [Dt τ] : ∀ L : List τ, PyData.plainAll (pys (L.map enc)) = true
  | [] => by simp [pys, PyData.plainAll]
  | x :: L => by simp [pys, PyData.plainAll, Dt.pl, encs_plain L]
theorem encs_canon {τ : Type} [Dt τ] : ∀ L : List τ, canons (L.map enc) = true
  | [] => rfl
  | x :: L => by simp [canons, Dt.can, encs_canon L]
theorem encs_eqv {τ : Type} [Dt τ] : ∀ L M : List τ, PyData.eqvAll (pys (L.map enc)) (pys (M.map enc)) = true ↔ L = M
  | [], [] => by simp [pys, PyData.eqvAll]
  | [], _ :: _ => by simp [pys, PyData.eqvAll]
  | _ :: _, [] => by simp [pys, PyData.eqvAll]
  | x :: L, y :: M => by
    simp only [List.map_cons, pys]
    rw [PySem.W.eqv_all_cons, Bool.and_eq_true, encs_eqv L M, Dt.inj]
    simp
theorem eqv_dec {τ : Type} [Dt τ] [DecidableEq τ] (x y : τ) : PyData.eqv (py (enc x)) (py (enc y)) = decide (x = y) := by
  by_cases h : x = y
  · rw [decide_eq_true h]; exact (Dt.inj x y).mpr h
  · rw [decide_eq_false h, Bool.eq_false_iff]; exact fun z => h ((Dt.inj x y).mp z)
/-- lists as tuples, as lists -/
theorem flat_enc {τ : Type} [Dt τ] (x : τ) {n : Nat} (h : Dt.dep τ ≤ n) : Flat n (enc x) := ⟨Dt.pl x, Nat.le_trans (Dt.dp x) h⟩
theorem flats_enc {τ : Type} [Dt τ] (L : List τ) {n : Nat} (h : Dt.dep τ ≤ n) : Flats n (L.map enc) := fun x hx => by
  obtain ⟨y, _, rfl⟩ := List.mem_map.mp hx
  exact flat_enc y h
section
variable {h : AH} {τ : Type} [Dt τ]
theorem gEq_enc [DecidableEq τ] {neg : Bool} (x y : τ) (hd : Dt.dep τ ≤ 60) : gEq neg (enc x) (enc y) h = some (.bl (if neg then !decide (x = y) else decide (x = y))) := by
  unfold gEq
  rw [Dt.nref, Dt.nref, eqv_dec]
  refine if_pos ?_
  have h1 := Dt.dp x
  unfold okD
  rw [Dt.pl, Dt.pl]
  simp
  omega
end
class DtO (τ : Type) extends Dt τ where
  lt : τ → τ → Bool
  like : ∀ x y : τ, PySem.W.alike (py (enc x)) (py (enc y)) = true
  some : ∀ x : τ, py (enc x) ≠ .none
  ltok : ∀ x y : τ, PySem.W.dataLt (py (enc x)) (py (enc y)) = lt x y
  irr : ∀ x : τ, lt x x = false
  tr : ∀ x y z : τ, lt x y = true → lt y z = true → lt x z = true
  con : ∀ x y : τ, lt x y = false → lt y x = false → x = y
instance : DtO Int := { lt := fun x y => decide (x < y), like := fun _ _ => rfl, some := (fun _ => by simp [enc, py]), ltok := fun x y => PySem.W.dataLt_int x y, irr := (fun _ => by simp), tr := (fun x y z => by simp; omega), con := (fun x y => by simp; omega) }
theorem Str.ext_list {x y : Str} (h : x.cps.toList = y.cps.toList) : x = y := PySem.W.str_of_cps h
instance : DtO Str where
  lt := fun x y => decide (x.cps.toList < y.cps.toList)
  like := fun _ _ => rfl
  some := fun _ => by simp [enc, py]
  ltok := fun x y => PySem.W.dataLt_str x y
  irr := fun x => by simp [List.lt_irrefl]
  tr := fun x y z => by simp only [decide_eq_true_eq]; exact fun a b => List.lt_trans a b
  con := fun x y => by
    simp only [decide_eq_false_iff_not, List.not_lt]
    exact fun a b => Str.ext_list (List.le_antisymm b a)
instance instDtOProd {α β : Type} [DtO α] [DtO β] [DecidableEq α] : DtO (α × β) where
  lt := fun p q => DtO.lt p.1 q.1 || (decide (p.1 = q.1) && DtO.lt p.2 q.2)
  like := fun x y => by
    show PySem.W.alike (.tuple (pys [enc x.1, enc x.2])) (.tuple (pys [enc y.1, enc y.2])) = true
    simp [pys, PySem.W.alike, PySem.W.alikeAll, DtO.like]
  some := fun _ => by simp [enc, py]
  ltok := fun x y => by
    show PySem.W.dataLt (.tuple (pys [enc x.1, enc x.2])) (.tuple (pys [enc y.1, enc y.2])) = _
    rw [PySem.W.dataLt_tuple]
    simp only [pys]
    by_cases e : x.1 = y.1
    · rw [PySem.W.dataLt_all_yes (DtO.like _ _) ((Dt.inj _ _).mpr e)]
      by_cases e2 : x.2 = y.2
      · rw [PySem.W.dataLt_all_yes (DtO.like _ _) ((Dt.inj _ _).mpr e2), e, e2, DtO.irr, DtO.irr]
        simp [PySem.W.keyToksAll, PyProof.Rows.lexLt]
        exact KeyOrd.irrefl itemOrd (Sum.inl 0)
      · rw [PySem.W.dataLt_all_no (DtO.like _ _) (by rw [Bool.eq_false_iff]; exact fun z => e2 ((Dt.inj _ _).mp z)), DtO.ltok, e, DtO.irr]
        simp
    · rw [PySem.W.dataLt_all_no (DtO.like _ _) (by rw [Bool.eq_false_iff]; exact fun z => e ((Dt.inj _ _).mp z)), DtO.ltok, decide_eq_false e]
      simp
  irr := fun x => by simp [DtO.irr]
  tr := fun x y z => by
    simp only [Bool.or_eq_true, Bool.and_eq_true, decide_eq_true_eq]
    rintro (a | ⟨a, b⟩) (c | ⟨c, d⟩)
    · exact .inl (DtO.tr _ _ _ a c)
    · rw [← c]; exact .inl a
    · rw [a]; exact .inl c
    · exact .inr ⟨a.trans c, DtO.tr _ _ _ b d⟩
  con := fun x y => by
    simp only [Bool.or_eq_false_iff, Bool.and_eq_false_iff, decide_eq_false_iff_not]
    rintro ⟨a, b⟩ ⟨c, d⟩
    have e := DtO.con _ _ a c
    refine Prod.ext e ?_
    rcases b with b | b
    · exact absurd e b
    · rcases d with d | d
      · exact absurd e.symm d
      · exact DtO.con _ _ b d
section
variable {h : AH} {τ : Type} [DtO τ]
theorem pys_map {α : Type} (f : α → AV) : ∀ L : List α, pys (L.map f) = L.map fun x => py (f x)
  | [] => rfl
  | x :: L => by rw [List.map_cons, pys, pys_map f L]; rfl
theorem like_encs (L : List τ) : likeAll (pys (L.map enc)) = true := by
  unfold likeAll
  rw [pys_map, List.all_eq_true]
  intro d hd
  obtain ⟨x, _, rfl⟩ := List.mem_map.mp hd
  rw [Bool.and_eq_true, List.all_eq_true]
  refine ⟨?_, fun e he => ?_⟩
  · have := DtO.some x
    cases k : py (enc x) with
    | none => exact absurd k this
    | _ => rfl
  · obtain ⟨y, _, rfl⟩ := List.mem_map.mp he
    exact DtO.like x y
theorem okItems_enc (L : List τ) (hd : Dt.dep τ ≤ 60) : okItems (L.map enc) = true := by
  unfold okItems
  rw [encs_canon, encs_plain, like_encs]
  have := encs_depth L
  simp
  omega
@[simp] theorem gMin_int2 {i j : Int} : gMin [.int i, .int j] h = some (.int (min i j)) := by
  show some (AV.int (if j < i then j else i)) = _
  congr 2
  split <;> omega
@[simp] theorem gMax_int2 {i j : Int} : gMax [.int i, .int j] h = some (.int (max i j)) := by
  show some (AV.int (if j > i then j else i)) = _
  congr 2
  split <;> omega
end
section
variable {h : AH} {xs : List AV} {neg : Bool}
@[simp] theorem eq_nilLs (f : Flat 60 (.lst xs)) : gEq neg (.lst xs) (.lst []) h = some (.bl (if neg then !xs.isEmpty else xs.isEmpty)) := eq_nilL f
@[simp] theorem eq_nilTs (f : Flat 60 (.tup xs)) : gEq neg (.tup xs) (.tup []) h = some (.bl (if neg then !xs.isEmpty else xs.isEmpty)) := eq_nilT f
@[simp] theorem eq_nilDs (f : Flat 60 (.lst xs)) : gEq neg (.rdl xs) (.lst []) h = some (.bl (if neg then !xs.isEmpty else xs.isEmpty)) := eq_nilD f
@[simp] theorem flats_int {n : Nat} {L : List Int} : Flats (n + 1) (L.map AV.int) ↔ True := iff_true_intro (flats_enc L (Nat.succ_le_succ (Nat.zero_le n)))
@[simp] theorem flats_mapint {α : Type} {n : Nat} {f : α → Int} {L : List α} : Flats (n + 1) (L.map fun x => AV.int (f x)) ↔ True := iff_true_intro fun x hx => by
  obtain ⟨y, _, rfl⟩ := List.mem_map.mp hx
  exact flat_int
end
def nth {τ : Type} (d : τ) (L : List τ) (k : Nat) : τ := L.getD k d
section
variable {h : AH}
@[simp] theorem gSum_lst {α : Type} {f : α → Int} {L : List α} : gSum [.lst (L.map fun x => .int (f x))] h = some (.int (L.map f).sum) := by
  unfold gSum
  simp
@[simp] theorem gSum_tup2 {i j : Int} : gSum [.tup [.int i, .int j]] h = some (.int (i + j)) := by
  unfold gSum
  simp [intsOf]
theorem gSum_ints {L : List Int} {a : AV} (v : vSq h a = some (L.map AV.int)) : gSum [a] h = some (.int L.sum) := by
  unfold gSum
  simp only [v]
  have : intsOf (L.map AV.int) = some L := by
    have := ints_map (f := fun x : Int => x) (L := L)
    simpa using this
  simp [this]
end
end NC
end S3
end
section
set_option Elab.async false
set_option linter.all false
set_option maxRecDepth 100000
set_option maxHeartbeats 4000000
namespace S3
open PySem PySem.Spec PyProof.Rows L2
noncomputable section NC
section
variable {h : AH} {i j : Int} {xs ys : List AV} {a b c : AV} {n : Nat} {s : Sl}
theorem cMul_of (c : (-1000000000000 ≤ i ∧ i ≤ 1000000000000) ∨ (-1000000000000 ≤ j ∧ j ≤ 1000000000000)) : CMul i j := by
  unfold CMul
  rcases c with ⟨h1, h2⟩ | ⟨h1, h2⟩
  · exact .inl ⟨by omega, by omega⟩
  · exact .inr ⟨by omega, by omega⟩
@[simp] theorem gMul_s (c : (-1000000000000 ≤ i ∧ i ≤ 1000000000000) ∨ (-1000000000000 ≤ j ∧ j ≤ 1000000000000)) : gMul (.int i) (.int j) h = some (.int (i * j)) := gMul_int (cMul_of c)
@[simp] theorem gDiv_s (c : 0 < j) (c2 : j < 1073741824) : gDiv (.int i) (.int j) h = some (.int (i / j)) := gDiv_int ⟨c, c2⟩
@[simp] theorem gMod_s (c : 0 < j) : gMod (.int i) (.int j) h = some (.int (i % j)) := gMod_int c
@[simp] theorem addT_s (l : xs.length + ys.length ≤ 16777216) : gAdd (.tup xs) (.tup ys) h = some (.tup (xs ++ ys)) := addT_ok l
@[simp] theorem addL_s (l : xs.length + ys.length ≤ 16777216) : gAdd (.lst xs) (.lst ys) h = some (.lst (xs ++ ys)) := addL_ok l
@[simp] theorem append_s (l : xs.length < 16777216) : gAppend (.ref h.length) [a] (h ++ [.lst xs]) = some (.non, h ++ [.lst (xs ++ [a])]) := append_end l
@[simp] theorem rg1_s (o : -1000000000 ≤ j) (o' : j ≤ 1000000000) : rg1K [.int j] h = .ok (rdC (upL 0 1 j.toNat)) h := rg1_ok (okN_ok o o')
@[simp] theorem rg2_s (o : -1000000000 ≤ i) (o' : i ≤ 1000000000) (u : -1000000000 ≤ j) (u' : j ≤ 1000000000) : rg2K [.int i, .int j] h = .ok (rdC (upL i 1 (j - i).toNat)) h := rg2_ok (okN_ok o o') (okN_ok u u')
@[simp] theorem rg3_s {k : Int} (o : -1000000000 ≤ i) (o' : i ≤ 1000000000) (u : -1000000000 ≤ j) (u' : j ≤ 1000000000) (w : k ≠ 0) (w1 : -1000000000 ≤ k) (w2 : k ≤ 1000000000) : rg3K [.int i, .int j, .int k] h = .ok (rdC (upL i k (rgN i j k))) h := rg3_ok (rgC_ok w (by omega) ⟨by omega, by omega⟩ ⟨by omega, by omega⟩)
@[simp] theorem atI_snoc {α : Type} {l : List α} {x : α} : atI (l ++ [x]) (l.length : Int) = some x := by
  rw [S3.atI_nat (by omega)]; simp
@[simp] theorem atI_snocM {α β : Type} {f : α → β} {l : List α} {x : β} : atI (l.map f ++ [x]) (l.length : Int) = some x := by
  rw [S3.atI_nat (by omega)]; simp
@[simp] theorem cut_snoc {x : AV} : cutA (xs ++ [x]) none (some (xs.length : Int)) = xs := by
  rw [cut_to (by omega)]; simp
@[simp] theorem cut_snocM {α : Type} {f : α → AV} {l : List α} {x : AV} : cutA (l.map f ++ [x]) none (some (l.length : Int)) = l.map f := by
  rw [cut_to (by omega)]; simp
@[simp] theorem cut_snocI {x : AV} : cutA (xs ++ [x]) none (some (-1)) = xs := by
  rw [cut_init]; simp
@[simp] theorem cut_nat {k : Nat} : cutA xs none (some (k : Int)) = xs.take k := by
  rw [cut_to (by omega)]; simp
@[simp] theorem cut_fromN {k : Nat} : cutA xs (some (k : Int)) none = xs.drop k := by
  rw [cut_from (by omega)]; simp
@[simp] theorem cut_fromN1 {k : Nat} : cutA xs (some ((k : Int) + 1)) none = xs.drop (k + 1) := by
  rw [show (k : Int) + 1 = ((k + 1 : Nat) : Int) by omega]; exact cut_fromN
@[simp] theorem isEmpty_snoc {α : Type} {l : List α} {x : α} : (l ++ [x]).isEmpty = false := by cases l <;> rfl
@[simp] theorem tup4 {d : AV} : S3.gTup [a, b, c, d] h = some (.tup [a, b, c, d]) := tup_ok (by unfold sizeLine; simp)
@[simp] theorem tup5 {d e : AV} : S3.gTup [a, b, c, d, e] h = some (.tup [a, b, c, d, e]) := tup_ok (by unfold sizeLine; simp)
@[simp] theorem lst4 {d : AV} : gLst [a, b, c, d] h = some (.lst [a, b, c, d]) := lst_ok (by unfold sizeLine; simp)
@[simp] theorem lst5 {d e : AV} : gLst [a, b, c, d, e] h = some (.lst [a, b, c, d, e]) := lst_ok (by unfold sizeLine; simp)
@[simp] theorem list_tup : gList [.tup xs] h = some (.lst xs) := rfl
@[simp] theorem list_lst : gList [.lst xs] h = some (.lst xs) := rfl
@[simp] theorem gAbs_s : gAbs [.int i] h = some (.int (i.natAbs : Int)) := by
  show some (AV.int (if i < 0 then -i else i)) = _
  congr 2
  split <;> omega
@[simp] theorem gInt_int : gInt [.int i] h = some (.int i) := rfl
@[simp] theorem gInt_bl {b : Bool} : gInt [.bl b] h = some (.int (if b then 1 else 0)) := rfl
@[simp] theorem av0 {a : AV} {l : Sl} : mVar 0 (some a :: l) h = .ok a h := rfl
@[simp] theorem av1 {a : AV} {x0 : Option AV} {l : Sl} : mVar 1 (x0 :: some a :: l) h = .ok a h := rfl
@[simp] theorem av2 {a : AV} {x0 x1 : Option AV} {l : Sl} : mVar 2 (x0 :: x1 :: some a :: l) h = .ok a h := rfl
@[simp] theorem av3 {a : AV} {x0 x1 x2 : Option AV} {l : Sl} : mVar 3 (x0 :: x1 :: x2 :: some a :: l) h = .ok a h := rfl
@[simp] theorem av4 {a : AV} {x0 x1 x2 x3 : Option AV} {l : Sl} : mVar 4 (x0 :: x1 :: x2 :: x3 :: some a :: l) h = .ok a h := rfl
@[simp] theorem av5 {a : AV} {x0 x1 x2 x3 x4 : Option AV} {l : Sl} : mVar 5 (x0 :: x1 :: x2 :: x3 :: x4 :: some a :: l) h = .ok a h := rfl
@[simp] theorem av6 {a : AV} {x0 x1 x2 x3 x4 x5 : Option AV} {l : Sl} : mVar 6 (x0 :: x1 :: x2 :: x3 :: x4 :: x5 :: some a :: l) h = .ok a h := rfl
@[simp] theorem av7 {a : AV} {x0 x1 x2 x3 x4 x5 x6 : Option AV} {l : Sl} : mVar 7 (x0 :: x1 :: x2 :: x3 :: x4 :: x5 :: x6 :: some a :: l) h = .ok a h := rfl
@[simp] theorem av8 {a : AV} {x0 x1 x2 x3 x4 x5 x6 x7 : Option AV} {l : Sl} : mVar 8 (x0 :: x1 :: x2 :: x3 :: x4 :: x5 :: x6 :: x7 :: some a :: l) h = .ok a h := rfl
@[simp] theorem av9 {a : AV} {x0 x1 x2 x3 x4 x5 x6 x7 x8 : Option AV} {l : Sl} : mVar 9 (x0 :: x1 :: x2 :: x3 :: x4 :: x5 :: x6 :: x7 :: x8 :: some a :: l) h = .ok a h := rfl
end
section
variable {h : AH} {neg : Bool} {x y : Str} {i : Int} {b : Bool} {xs : List AV}
@[simp] theorem gEq_str : gEq neg (.str x) (.str y) h = some (.bl (if neg then !decide (x = y) else decide (x = y))) := gEq_enc (τ := Str) x y (by decide)
@[simp] theorem gEq_bl {c : Bool} : gEq neg (.bl b) (.bl c) h = some (.bl (if neg then !decide (b = c) else decide (b = c))) := gEq_enc (τ := Bool) b c (by decide)
theorem gEq_no {a c : AV} (ea : pyv h a = py a) (ec : pyv h c = py c) (p1 : (py a).plain = true) (p2 : (py c).plain = true) (d : min (py a).depth (py c).depth ≤ 60) (e : PyData.eqv (py a) (py c) = false) : gEq neg a c h = some (.bl neg) := by
  unfold gEq
  rw [ea, ec]
  have : okD (py a) (py c) = true := by unfold okD; rw [p1, p2]; simpa using d
  rw [if_pos this, e]
  cases neg <;> rfl
@[simp] theorem gEq_si : gEq neg (.str x) (.int i) h = some (.bl neg) := gEq_no rfl rfl rfl rfl (by simp [py, PyData.depth]) rfl
@[simp] theorem gEq_is : gEq neg (.int i) (.str x) h = some (.bl neg) := gEq_no rfl rfl rfl rfl (by simp [py, PyData.depth]) rfl
@[simp] theorem gEq_ns : gEq neg .non (.str x) h = some (.bl neg) := gEq_no rfl rfl rfl rfl (by simp [py, PyData.depth]) rfl
@[simp] theorem gEq_sn : gEq neg (.str x) .non h = some (.bl neg) := gEq_no rfl rfl rfl rfl (by simp [py, PyData.depth]) rfl
@[simp] theorem gEq_ni : gEq neg .non (.int i) h = some (.bl neg) := gEq_no rfl rfl rfl rfl (by simp [py, PyData.depth]) rfl
@[simp] theorem gEq_in : gEq neg (.int i) .non h = some (.bl neg) := gEq_no rfl rfl rfl rfl (by simp [py, PyData.depth]) rfl
@[simp] theorem gEq_nn : gEq neg .non .non h = some (.bl (!neg)) := by
  unfold gEq
  cases neg <;> rfl
theorem plainAll_of {xs : List AV} {n : Nat} (f : Flats n xs) : PyData.plainAll (pys xs) = true := (flat_all f).1
@[simp] theorem gEq_ts (f : Flats 100 xs) : gEq neg (.tup xs) (.str x) h = some (.bl neg) := gEq_no rfl rfl (by simpa [py, PyData.plain] using plainAll_of f) rfl (by simp [py, PyData.depth]) (by simp [py, PyData.eqv])
@[simp] theorem gEq_st (f : Flats 100 xs) : gEq neg (.str x) (.tup xs) h = some (.bl neg) := gEq_no rfl rfl rfl (by simpa [py, PyData.plain] using plainAll_of f) (by simp [py, PyData.depth]) (by simp [py, PyData.eqv])
@[simp] theorem gEq_ls (f : Flats 100 xs) : gEq neg (.lst xs) (.str x) h = some (.bl neg) := gEq_no rfl rfl (by simpa [py, PyData.plain] using plainAll_of f) rfl (by simp [py, PyData.depth]) (by simp [py, PyData.eqv])
@[simp] theorem gIs_sn : gIs neg (.str x) .non h = some (.bl neg) := rfl
@[simp] theorem gIs_in : gIs neg (.int i) .non h = some (.bl neg) := rfl
@[simp] theorem gIs_tn : gIs neg (.tup xs) .non h = some (.bl neg) := rfl
@[simp] theorem gIs_nn {neg : Bool} : gIs neg .non .non h = some (.bl (!neg)) := by cases neg <;> rfl
end
end NC
end S3
end
section
set_option Elab.async false
set_option linter.all false
set_option maxRecDepth 100000
set_option maxHeartbeats 4000000
namespace S3S
open PySem PySem.W PySem.Calls PyProof.Rows PySem.Spec
section
variable {prog : Program} {w : World} {A : Around} {E : Value → Shared → Prop} {s : Shared} {β : Type} {enc : β → PyData} {vs : List Value} {bs : List β}
theorem sortVals_perm {κ : PyProof.Rows.KeyKind} {rev : Bool} (vs : List Value) : (PySem.W.sortVals κ rev vs vs).Perm vs := by
  unfold PySem.W.sortVals
  refine ((List.mergeSort_perm _ _).map _).trans ?_
  rw [List.map_snd_zip (Nat.le_refl _)]
theorem sorted_coll {x : Value} {R : Heap → Value → β → Prop} {G : Heap → List Value → Prop} {Q : Value → Shared → Prop}
    (hcol : ∀ (R1 : List Value → Shared → Prop) (E' : Value → Shared → Prop), (∀ h1 tk1 vs, (∀ b o, s.heap.get? b = some o → h1.get? b = some o) → G h1 vs → R1 vs { s with heap := h1, toks := tk1 }) → wpAny (model prog w) A.in1 (collect x) R1 E' s)
    (he : ∀ h1 vs, (∀ b o, s.heap.get? b = some o → h1.get? b = some o) → G h1 vs → PySem.W.EachIs (R h1) vs bs ∧ PySem.W.EachIs (fun v b => ∃ as, Reads h1 v (enc b) as) vs bs) (hal : PySem.W.AllAlike (bs.map enc)) (hk : PySem.W.Sortable (bs.map enc)) (hL : bs.length ≤ sizeLine) (hu : ∀ b, b ∈ bs → A.units + 2 + (enc b).depth < cLine)
    (h : ∀ (h1 : Heap) (tk1 : Nat) (vs out : List Value) (h' : Heap) (n : Nat), (∀ b o, s.heap.get? b = some o → h1.get? b = some o) → G h1 vs → (∀ b o, h1.get? b = some o → h'.get? b = some o) → h'.get? h1.objs.size = some (seqObj "list" (List.toArray out) n) → out.length = bs.length → out.Perm vs → PySem.W.EachIs (R h1) out (bs.mergeSort (PySem.W.dataLe false enc)) → Q (.ref h1.objs.size) { s with heap := h', toks := tk1 }) :
    wpAny (model prog w) A (call (.builtin "sorted") [x]) Q E s := by
  refine call_function_entry kind_sorted plain_sorted entry_sorted (args_sorted1 _) ?_
  unfold Builtin.«sorted»
  refine wpAny_bind (m := checkCount "sorted" 1 1 _) (wpAny_pure ?_)
  refine wpAny_bind (hcol _ _ fun h1 tk1 vs k1 g1 => ?_)
  obtain ⟨e, er⟩ := he h1 vs k1 g1
  have hv : vs.length = bs.length := e.length
  refine wpAny_bind (wpAny_newList ?_ (by rw [hv]; exact hL))
  have hat : (h1.push (seqObj "list" vs.toArray 0)).get? h1.objs.size = some (seqObj "list" vs.toArray 0) := Heap.get?_push_size _ rfl
  have old : ∀ {b : Addr} {o : Obj}, h1.get? b = some o → (PySem.W.sortingHeap (h1.push (seqObj "list" vs.toArray 0)) h1.objs.size vs).get? b = some o := fun {b o} q =>
    PySem.W.sortingHeap_old (Nat.ne_of_lt (Heap.lt_size q)) (Heap.get?_push_of_some _ q)
  have er' : PySem.W.EachIs (fun v b => ∃ as, Reads (PySem.W.sortingHeap (h1.push (seqObj "list" vs.toArray 0)) h1.objs.size vs) v (enc b) as) vs bs := er.mono fun _ _ ⟨as, r⟩ => ⟨as, PyProof.Rows.Reads.keeps (fun _ _ => old) r⟩
  refine wpAny_bind (wpAny_holding (wpAny_mono (PySem.wpAny_call_entry slot_list_sort ⟨_, hat, rfl⟩ entry_list_sort (PySem.W.list_sort_vals (κ := PySem.W.dataKind (PySem.W.sortingHeap (h1.push (seqObj "list" vs.toArray 0)) h1.objs.size vs) (bs.map enc)) (s := { s with heap := h1.push (seqObj "list" vs.toArray 0), toks := tk1 }) hat (PySem.W.SortsAt.data (s := { s with heap := PySem.W.sortingHeap (h1.push (seqObj "list" vs.toArray 0)) h1.objs.size vs, toks := tk1 }) (PySem.W.each_map (R := fun v d => ∃ as, Reads (PySem.W.sortingHeap (h1.push (seqObj "list" vs.toArray 0)) h1.objs.size vs) v d as) enc er') hal hk (PySem.W.bound_map (A := A.in1.in1) hu)) (by rw [hv]; exact hL) ⟨.none, rfl, ?_⟩) (args_list_sort _)) (fun _ s' x => x) fun _ _ e => e))
  obtain ⟨n, hn⟩ := sortedHeap_at (vs := vs) (out := (PySem.W.sortVals (PySem.W.dataKind (PySem.W.sortingHeap (h1.push (seqObj "list" vs.toArray 0)) h1.objs.size vs) (bs.map enc)) false vs vs).toArray) hat
  refine wpAny_pure ⟨_, rfl, h h1 tk1 vs _ _ n k1 g1 (fun b o q => ?_) hn (by rw [PySem.W.sortVals_length false rfl]; exact hv) (sortVals_perm vs) (PySem.W.sortVals_data false e er' hal)⟩
  rw [sortedHeap_old (Nat.ne_of_lt (Heap.lt_size q)) (by show b < (h1.push _).objs.size; rw [Heap.size_push]; exact Nat.lt_succ_of_lt (Heap.lt_size q))]
  exact Heap.get?_push_of_some _ q
end
end S3S
namespace S3
open PySem PySem.Spec PyProof.Rows L2
noncomputable section NC
/-- all are tuples that aren't empty, or none is a tuple or None -/
def sortB (xs : List AV) : Bool := (xs.all fun a => match a with
  | .tup (_ :: _) => true
  | _ => false) || xs.all fun a => match py a with
    | .none => false
    | .tuple _ => false
    | _ => true
def sortA (xs : List AV) : List AV := xs.mergeSort (PySem.W.dataLe false py)
/-- the items of what can be walked and put in order -/
def gSorted : GL := fun as h => match as with
  | [a] => match vSq h a with
    | some xs => if okItems xs = true ∧ sortB xs = true then some (.lst (sortA xs)) else none
    | none => none
  | _ => none
section
variable {B : Bx} {X : Cx}
theorem pys_eq : ∀ xs : List AV, pys xs = xs.map py
  | [] => rfl
  | x :: xs => by rw [pys, pys_eq xs]; rfl
theorem sortB_ok {xs : List AV} (h : sortB xs = true) : PySem.W.Sortable (xs.map py) := by
  unfold sortB at h
  rcases Bool.or_eq_true_iff.mp h with h | h
  · left
    intro d hd
    obtain ⟨a, ha, rfl⟩ := List.mem_map.mp hd
    have := List.all_eq_true.mp h a ha
    cases a with
    | tup ys =>
      cases ys with
      | nil => cases this
      | cons y r => exact ⟨py y, pys r, by simp [py, pys]⟩
    | _ => cases this
  · right
    intro d hd
    obtain ⟨a, ha, rfl⟩ := List.mem_map.mp hd
    have := List.all_eq_true.mp h a ha
    cases k : py a with
    | none => simp only [k] at this; cases this
    | tuple ys => simp only [k] at this; cases this
    | _ => exact ⟨(fun z => by cases z), fun _ z => by cases z⟩
theorem each_rv {ρ : List Addr} {F : Hp} : ∀ {xs : List AV} {vs : List V} {its : List Value}, RVs B ρ F xs vs → Vals vs its → PySem.W.EachIs (fun v a => ∃ w, RelV w v ∧ RV B ρ F a w) its xs
  | [], vs, its, r, t => by
    have r : vs = [] := r
    subst r
    cases t
    exact .nil
  | a :: xs, vs, its, r, t => by
    obtain ⟨v, w, rfl, r1, r2⟩ := r
    cases t with
    | cons t1 t2 => exact .cons ⟨v, t1, r1⟩ (each_rv r2 t2)
theorem rv_each {ρ : List Addr} {F : Hp} : ∀ {xs : List AV} {its : List Value}, PySem.W.EachIs (fun v a => ∃ w, RelV w v ∧ RV B ρ F a w) its xs → ∃ ws, RVs B ρ F xs ws ∧ Vals ws its
  | [], its, e => by
    cases e
    exact ⟨[], rfl, .nil⟩
  | a :: xs, its, e => by
    cases e with
    | cons e1 e2 =>
      obtain ⟨w, t1, r1⟩ := e1
      obtain ⟨ws, r2, t2⟩ := rv_each e2
      exact ⟨w :: ws, ⟨w, ws, rfl, r1, r2⟩, .cons t1 t2⟩
theorem each_and {α β : Type} {R R' : α → β → Prop} : ∀ {as : List α} {bs : List β}, PySem.W.EachIs R as bs → (∀ a b, a ∈ as → b ∈ bs → R a b → R' a b) → PySem.W.EachIs R' as bs
  | _, _, .nil, _ => .nil
  | _, _, .cons h t, f => .cons (f _ _ List.mem_cons_self List.mem_cons_self h) (each_and t fun a b ha hb => f a b (List.mem_cons_of_mem _ ha) (List.mem_cons_of_mem _ hb))
theorem plain_mem {xs : List AV} (h : PyData.plainAll (pys xs) = true) {a : AV} (m : a ∈ xs) : (py a).plain = true := by
  obtain ⟨i, hi, e⟩ := List.getElem_of_mem m
  exact plain_at h (by rw [List.getElem?_eq_getElem hi, e])
theorem depth_mem : ∀ {xs : List AV} {a : AV}, a ∈ xs → (py a).depth ≤ PyData.depthAll (pys xs)
  | x :: xs, a, m => by
    simp only [pys, PyData.depthAll]
    rcases List.mem_cons.mp m with rfl | m
    · exact Nat.le_max_left _ _
    · exact Nat.le_trans (depth_mem m) (Nat.le_max_right _ _)
/-- what is collected from x: the items' values, behind the heap's growth -/
def Coll (X : Cx) (x : Value) (s : Shared) (G : Heap → List Value → Prop) : Prop := ∀ (R1 : List Value → Shared → Prop) (E' : Value → Shared → Prop), (∀ h1 tk1 vs, (∀ b o, s.heap.get? b = some o → h1.get? b = some o) → G h1 vs → R1 vs { s with heap := h1, toks := tk1 }) → wpAny (model X.prog X.w) X.A.in1 (collect x) R1 E' s
theorem sorted_items (hu : X.A.units + 64 < cLine) (hK : X.K = B.K) {pins : List (Addr × Obj)} {σ : L2.St} {H : Hp} {s : Shared} {ρ : List Addr} {F : Hp} {h : AH} {xs : List AV} {ws : List V} {its : List Value} {x : Value} {Q : VK} (I : Inv X pins σ H s) (hr : HR B ρ F h H) (rs : RVs B ρ F xs ws) (rv : Vals ws its) (hz : ws.length ≤ sizeLine) (hc : Coll X x s fun _ vs => vs = its)
    (ok : okItems xs = true) (sb : sortB xs = true) (q : ∀ ρ' F' H' z, Ext ρ F H ρ' F' H' → HR B ρ' F' h H' → RV B ρ' F' (.lst (sortA xs)) z → Q z H') : wpAny (model X.prog X.w) X.A (call (.builtin "sorted") [x]) (EP X pins σ Q) X.xe s := by
  obtain ⟨o1, o2, o3, o4⟩ := okItems_of ok
  have dp := RVs.dp hr _ _ rs o2
  have e := each_rv rs rv
  have hl : ws.length = xs.length := (RVs.length rs).symm
  refine S3S.sorted_coll (bs := xs) (enc := py) (R := fun _ v a => ∃ w, RelV w v ∧ RV B ρ F a w) hc (fun h1 vs k1 g1 => ?_) (fun d hd d' hd' => ?_) (sortB_ok sb) (by rw [← hl]; exact hz) (fun a ha => ?_) fun h1 tk1 vs out h' n k1 g1 old hat hlen _ eo => ?_
  · subst g1
    refine ⟨e, each_and e fun v a hv ha ⟨w, r1, r2⟩ => ?_⟩
    have pa := plain_mem o2 ha
    obtain ⟨as, r⟩ := Dp.reads I (py a) w v (by rw [hK]; exact RV.dp hr a w r2 pa) r1
    exact ⟨as, PyProof.Rows.Reads.keeps k1 r⟩
  · rw [pys_eq] at o3
    exact o3.1 d hd d' hd'
  · have := depth_mem ha
    omega
  · obtain ⟨zs, r2, t2⟩ := rv_each eo
    have hzs : zs.length ≤ sizeLine := by
      rw [(RVs.length r2).symm, List.length_mergeSort, ← hl]
      exact hz
    have I1 : Inv X pins σ H { s with heap := h1, toks := tk1 } := I.kept k1
    have fresh : H h1.objs.size = none := I1.hok.fresh (Nat.le_refl _)
    have I2 := I1.laid (a := h1.objs.size) (o := .lst zs) (h' := h') (t' := tk1) old (Nat.le_refl _) ⟨hzs, out, n, t2, hat⟩
    obtain ⟨hr', ex⟩ := hr.newF fresh (.lst zs)
    exact ⟨.ref h1.objs.size, _, I2, rfl, q _ _ _ _ ex hr' ⟨h1.objs.size, zs, rfl, .inl upd_same, r2.ext ex⟩⟩
theorem coll_list {s : Shared} {p : Addr} {its : List Value} (hl : s.heap.IsList p its.toArray) (hz : its.length ≤ sizeLine) : Coll X (.ref p) s fun _ vs => vs = its := fun R1 E' h1 => by
  refine collect_list hl (h1 _ s.toks _ (fun b o e => ?_) rfl) hz
  rw [Heap.get?_update_ne _ _ _ _ (Nat.ne_of_lt (Heap.lt_size e))]
  exact Heap.get?_push_of_some _ e
theorem coll_tuple {s : Shared} {p : Addr} {its : List Value} (hl : IsTup s.heap p its.toArray) (hz : its.length ≤ sizeLine) : Coll X (.ref p) s fun _ vs => vs = its := fun R1 E' h1 => by
  obtain ⟨o, ho, hcl, n, hd⟩ := hl
  exact wpAny_collect_seq p (.inr rfl) ho hcl hd (fun h' k => h1 h' s.toks _ k rfl) (by simpa using hz)
theorem cr_gSorted (hu : X.A.units + 64 < cLine) (hK : X.K = B.K := by rfl) : CallR X (.builtin "sorted") (rmL B gSorted) := by
  intro pins s σ H xs us Q I r hh
  obtain ⟨ρ, F, h, as, c, hr, ra, ec, q⟩ := hh
  unfold gSorted at ec
  split at ec
  · rename_i a
    split at ec
    · rename_i ys e2
      split at ec
      · rename_i hs
        cases ec
        obtain ⟨v, rfl, rv⟩ := ra.one
        obtain ⟨p, vs, ex, sq, rs⟩ := vSq_at hr rv e2
        subst ex
        rw [Vals.ref1 r]
        rcases sq with sq | sq
        · obtain ⟨its, rits, hl, hz⟩ := I.list (by rw [hK]; exact sq)
          exact sorted_items hu hK I hr rs rits hz (coll_list (its := its) hl.isList (rits.length ▸ hz)) hs.1 hs.2 q
        · obtain ⟨its, rits, hl, hz⟩ := I.tuple (by rw [hK]; exact sq)
          exact sorted_items hu hK I hr rs rits hz (coll_tuple (its := its) hl (rits.length ▸ hz)) hs.1 hs.2 q
      · cases ec
    · cases ec
  · cases ec
end
end NC
end S3
end
section
set_option Elab.async false
set_option linter.all false
set_option maxRecDepth 100000
set_option maxHeartbeats 4000000
namespace S3
open PySem PySem.Spec PyProof.Rows L2
noncomputable section NC
section
variable {B : Bx} {X : Cx} {W : WX}
def mDNewK : ME := fun _ h => .ok (.ref h.length) (h ++ [.dK []])
theorem se_dnewK {pos : Pos} : SE B X W (.Dict [] [] pos) mDNewK := PE.imp pe_dnewK fun σ H Q ⟨ρ, F, h, s, sr, hr, p⟩ q hq => by
  obtain ⟨hr', ex⟩ := hr.newM hq (o := .dK []) (u := .dK []) ⟨[], rfl, rfl⟩
  exact p _ _ _ _ ex hr' ⟨q, by rw [← hr.len]; exact getElem?_snoc _ _, rfl⟩
theorem se_dnewKF {pos : Pos} : SE B X W (.Dict [] [] pos) (mC (.dK [])) := PE.imp (pe_frz pe_dnewK) fun σ H Q ⟨ρ, F, h, s, sr, hr, p⟩ q hq => by
  refine ⟨q, .dK [], rfl, upd_same, trivial, fun od => ?_⟩
  rw [upd_upd]
  obtain ⟨hr', ex⟩ := hr.newF hq (.frz od (.dK [])) (by intro _ z; cases z)
  exact p _ _ _ _ ex hr' ⟨q, od, [], rfl, upd_same, rfl⟩
def MP := Sl → AH → Rs (List (Key × AV))
structure SP (B : Bx) (X : Cx) (W : WX) (pos : Pos) (keys : List (Option Expr)) (values : List Expr) (m : MP) : Prop where
  ex : ∃ trs, PPs X pos keys values trs ∧ ∀ (σ : L2.St) (H : Hp) (Q : List (V × V) → Hp → Prop), (∃ ρ F h s, SR B ρ F s σ ∧ HR B ρ F h H ∧ Post B (fun ρ F => RKs B ρ F) ρ F H (m s h) (fun ws H' => Q (ws.map fun kv => (kV kv.1, kv.2)) H') (fun cls d H' => W cls d σ H')) → tPairs trs σ H Q
/-- a thing that isn't told of -/
theorem HR.extra {ρ : List Addr} {F H : Hp} {h : AH} (x : HR B ρ F h H) {p : Addr} (n : p ∉ ρ) (f : F p = none) {u : HO} (q : H p = none ∨ ∃ w, H p = some w ∧ (∀ ps, w ≠ .tbl ps) ∧ (∀ φ, w ≠ .ext φ)) : HR B ρ F h (upd H p u) := by
  refine ⟨fun b w e => ?_, x.len, x.nd, x.sep, fun i b o e1 e2 => ?_, ?_, x.ntb⟩
  · have hb : b ≠ p := fun z => by rw [z, f] at e; cases e
    rw [upd_ne hb]
    exact x.sub b w e
  · have hb : b ≠ p := fun z => n (z ▸ List.mem_of_getElem? e1)
    exact OR.to (fun _ _ e => e) (fun _ _ e => e) (fun w e => by rw [upd_ne hb]; exact e) (x.obj i b o e1 e2)
  · rcases q with q | ⟨w, q, n1, n2⟩
    · exact x.tab.ext (upd_old q)
    · exact tabs_write q n1 n2 x.tab
theorem Ext.extra {ρ : List Addr} {F H : Hp} {p : Addr} (q : H p = none) (u : HO) : Ext ρ F H ρ F (upd H p u) :=
  ⟨fun _ _ e => e, fun _ _ e => e, fun b w e _ _ => upd_old q _ _ e, fun _ _ _ _ _ _ f => f, fun _ _ _ _ m => m, fun b o w e => upd_old q _ _ e, fun _ _ _ _ f => f⟩
theorem Ext.under {ρ ρ' : List Addr} {F F' H H' : Hp} {z : Addr} {u : HO} (q : H z = none) (e : Ext ρ F (upd H z u) ρ' F' H') : Ext ρ F H ρ' F' H' := by
  have up : ∀ b w, H b = some w → upd H z u b = some w := fun b w k => upd_old q _ _ k
  exact ⟨e.pre, e.fz, fun b w k n nt => e.keep b w (up b w k) n nt, fun b w k nt tu n f => e.fnew b w (up b w k) nt tu n f, fun b w k nt n => e.rnew b w (up b w k) nt n, fun b o w k => e.lk b o w (up b _ k), fun b o w k f => e.fnl b o w (up b _ k) f⟩
theorem Ext.over {ρ ρ' : List Addr} {F F' H H' : Hp} {z : Addr} {u : HO} (q : H z = none) (f : F z = none) (e : Ext ρ F H ρ' F' H') : Ext ρ F H ρ' F' (upd H' z u) := by
  have ne : ∀ b w, H b = some w → b ≠ z := fun b w k y => by rw [y, q] at k; cases k
  exact ⟨e.pre, e.fz, fun b w k n nt => by rw [upd_ne (ne b w k)]; exact e.keep b w k n nt, e.fnew, e.rnew, fun b o w k => by rw [upd_ne (ne b _ k)]; exact e.lk b o w k, e.fnl⟩
end
end NC
end S3
end
section
set_option Elab.async false
set_option linter.all false
set_option maxRecDepth 100000
set_option maxHeartbeats 4000000
namespace S3
open PySem PySem.Spec PyProof.Rows L2
noncomputable section NC
def keyA : Key → AV
  | .inl i => .int i
  | .inr x => .str x
section
variable {B : Bx} {X : Cx}
/-- what stands in the dict at a: values of keys and values -/
def Ents (g : Heap) (a : Addr) (es : Array DictEntry) (ep : Nat) (kw : List (V × V)) : Prop := DT.Raw g a es ep ∧ es.size = kw.length ∧ ∀ (j : Nat) (p : V × V), kw[j]? = some p → ∃ e, es[j]? = some e ∧ RelV p.1 e.key ∧ RelV p.2 e.val
theorem ents_K {pins : List (Addr × Obj)} {σ : L2.St} {H : Hp} {s : Shared} {a : Addr} {ws : List (Key × V)} (I : Inv X pins σ H s) (hd : L2.Rd H a (.dK ws)) : ws.length ≤ sizeLine ∧ (a == sysModules) = false ∧ ∃ es ep, Ents s.heap a es ep (ws.map fun kv => (kV kv.1, kv.2)) := by
  obtain ⟨hz, hs, vs, kv, hdo⟩ := dk_rd I.hok hd
  obtain ⟨es, ep, raw, hsz, hat⟩ := Heap.DictOf.raw hdo
  have lk : ws.length = vs.length := Paired.length kv
  refine ⟨hz, hs, es, ep, raw, by rw [List.length_map]; omega, fun j p hp => ?_⟩
  rw [List.getElem?_map] at hp
  cases k : ws[j]? with
  | none => rw [k] at hp; cases hp
  | some q =>
    rw [k] at hp
    cases hp
    obtain ⟨qv, g1, g2, g3⟩ := paired_get kv k
    obtain ⟨k1, v1⟩ := qv
    have hj : j < es.size := by
      have := (List.getElem?_eq_some_iff.mp g1).1
      omega
    obtain ⟨f1, f2⟩ := hat j hj k1 v1 g1
    have g2 : q.1 = k1 := g2
    refine ⟨es[j], Array.getElem?_eq_getElem hj, ?_, ?_⟩
    · show RelV (kV q.1) es[j].key
      rw [g2]
      exact relV_key f1
    · show RelV q.2 es[j].val
      rw [f2]
      exact g3
theorem vDk_at {ρ : List Addr} {F H : Hp} {h : AH} {d : AV} {x : V} {kvs : List (Key × AV)} (hr : HR B ρ F h H) (ra : RV B ρ F d x) (e : vD h d = some (.k kvs)) : ∃ a ws, x = .ref a ∧ L2.Rd H a (.dK ws) ∧ RKs B ρ F kvs ws := by
  cases d with
  | dK ks =>
    have e : some (DV.k ks) = some (DV.k kvs) := e
    cases e
    obtain ⟨p, o, ws, ex, q, r⟩ := ra
    exact ⟨p, ws, ex, .inr ⟨o, hr.sub _ _ q⟩, r⟩
  | dT ks => cases e
  | ref n =>
    obtain ⟨p, ep, ex⟩ := ra
    obtain ⟨o, eo, ro⟩ := hr.at' ep
    unfold vD at e
    simp only [eo] at e
    cases o with
    | dK ks =>
      cases e
      obtain ⟨u, eu, ws, e1, r⟩ := ro
      subst e1
      exact ⟨p, ws, ex, .inl eu, r⟩
    | lck o =>
      cases o with
      | dK ks =>
        cases e
        obtain ⟨ob, u, eu, ws, e1, r⟩ := ro
        subst e1
        exact ⟨p, ws, ex, .inr ⟨ob, eu⟩, r⟩
      | _ => cases e
    | _ => cases e
  | _ => cases e
/-- key and value of each -/
def RPr (B : Bx) (ρ : List Addr) (F : Hp) (its : List AV) (kw : List (V × V)) : Prop := its.length = kw.length ∧ ∀ (j : Nat) (a : AV), its[j]? = some a → ∃ ka va x y, a = .tup [ka, va] ∧ kw[j]? = some (x, y) ∧ RV B ρ F ka x ∧ RV B ρ F va y
theorem RPr.cons {ρ : List Addr} {F : Hp} {its : List AV} {kw : List (V × V)} {ka va : AV} {x y : V} (rk : RV B ρ F ka x) (rv : RV B ρ F va y) (r : RPr B ρ F its kw) : RPr B ρ F (.tup [ka, va] :: its) ((x, y) :: kw) := ⟨by rw [List.length_cons, List.length_cons, r.1], fun j a e => by
  cases j with
  | zero => cases e; exact ⟨ka, va, x, y, rfl, rfl, rk, rv⟩
  | succ j => exact r.2 j a e⟩
theorem HR.grow {ρ : List Addr} {F H H' : Hp} {h : AH} (x : HR B ρ F h H) (k : ∀ b o, H b = some o → H' b = some o) : HR B ρ F h H' :=
  ⟨fun p u e => k _ _ (x.sub p u e), x.len, x.nd, x.sep, fun i p o e1 e2 => OR.to (fun _ _ e => e) (fun _ _ e => e) (fun u e => k _ _ e) (x.obj i p o e1 e2), x.tab.ext k, x.ntb⟩
theorem Ext.grow {ρ : List Addr} {F H H' : Hp} (k : ∀ b o, H b = some o → H' b = some o) : Ext ρ F H ρ F H' :=
  ⟨fun _ _ e => e, fun _ _ e => e, fun b w e _ _ => k _ _ e, fun _ _ _ _ _ _ f => f, fun _ _ _ _ m => m, fun b o w e => k _ _ e, fun _ _ _ _ f => f⟩
end
end NC
end S3
end
section
set_option Elab.async false
set_option linter.all false
set_option maxRecDepth 100000
set_option maxHeartbeats 4000000
namespace S3
open PySem PySem.Spec PyProof.Rows L2
noncomputable section NC
section
variable {B : Bx} {X : Cx} {W : WX}
def tDM0 (r : V → List V → Hp → VK → Prop) (to : TE) : TE := fun σ H Q => to σ H fun x H1 => (∃ a, x = .ref a ∧ IsD H1 a) ∧ r x [] H1 Q
theorem pe_dm0 {o : Expr} {name : Str} {id : String} {apos cpos : Pos} {r : V → List V → Hp → VK → Prop} {to : TE} (slot : Slot "dict" name id) (hty : typeOf (.builtin id) = pure (.type "method_descriptor")) (hm : MtR X id r) (ho : PE X o to)
    (hbase : attributeBase o name X.env (eval o X.env) = eval o X.env := by rfl) (hline : (apos.endLine == cpos.line) = true := by rfl) : PE X (.Call (.Attribute o name apos) [] [] cpos) (tDM0 r to) := by
  refine ⟨fun pins s σ H Q I h => ?_⟩
  refine wpAny_Call_method0_late hbase hline (thn (ho.run pins s σ H _ I h) fun v s1 ⟨x, H1, I1, r1, ⟨a, ex, d⟩, q1⟩ => ?_)
  subst ex
  have r1' := r1
  obtain rfl : v = Value.ref a := r1
  obtain ⟨h1, h2, _⟩ := isD_at I1 d
  exact ⟨"dict", id, PySem.F.plainAttrs_dict, slot, hty, h1, h2, Calls.callWith_builtin rfl (PySem.evalArgs_none (hm pins s1 σ H1 (.ref a) [] _ [] Q I1 r1' .nil q1))⟩
end
end NC
end S3
end
section
set_option Elab.async false
set_option linter.all false
set_option maxRecDepth 100000
set_option maxHeartbeats 4000000
namespace S3
open PySem PySem.Spec PyProof.Rows L2
noncomputable section NC
section
variable {B : Bx} {X : Cx} {W : WX}
def dVals (h : AH) (d : AV) : Option (List AV) := match vD h d with
  | some (.k kvs) => some (kvs.map fun p => p.2)
  | _ => none
theorem RKs.keys {ρ : List Addr} {F : Hp} : ∀ {kvs : List (Key × AV)} {ws : List (Key × V)}, RKs B ρ F kvs ws → RVs B ρ F (kvs.map fun p => keyA p.1) (ws.map fun p => kV p.1)
  | [], ws, r => by
    have r : ws = [] := r
    subst r
    exact rfl
  | (k, a) :: kvs, ws, r => by
    obtain ⟨v, w, rfl, r1, r2⟩ := r
    refine ⟨kV k, _, rfl, ?_, RKs.keys r2⟩
    cases k <;> exact rfl
theorem RKs.vals {ρ : List Addr} {F : Hp} : ∀ {kvs : List (Key × AV)} {ws : List (Key × V)}, RKs B ρ F kvs ws → RVs B ρ F (kvs.map fun p => p.2) (ws.map fun p => p.2)
  | [], ws, r => by
    have r : ws = [] := r
    subst r
    exact rfl
  | (k, a) :: kvs, ws, r => by
    obtain ⟨v, w, rfl, r1, r2⟩ := r
    exact ⟨v, _, rfl, r1, RKs.vals r2⟩
theorem RPr.keys {ρ : List Addr} {F : Hp} {kw : List (V × V)} : ∀ {its : List AV}, RPr B ρ F its kw → RVs B ρ F (its.map fun a => match a with
    | .tup [k, _] => k
    | _ => .non) (kw.map (·.1)) := by
  induction kw with
  | nil =>
    intro its r
    have : its = [] := List.length_eq_zero_iff.mp (by simpa using r.1)
    subst this
    exact rfl
  | cons p kw ih =>
    intro its r
    obtain ⟨hl, hat⟩ := r
    cases its with
    | nil => cases hl
    | cons a its =>
      obtain ⟨ka, va, x, y, e1, e2, r1, r2⟩ := hat 0 a rfl
      cases e2
      subst e1
      exact ⟨x, kw.map (·.1), rfl, r1, ih ⟨by simpa using hl, fun j b e => hat (j + 1) b e⟩⟩
theorem dVals_at {pins : List (Addr × Obj)} {σ : L2.St} {H : Hp} {s : Shared} {ρ : List Addr} {F : Hp} {h : AH} {d : AV} {x : V} {ks : List AV} (I : Inv X pins σ H s) (hr : HR B ρ F h H) (ra : RV B ρ F d x) (e : dVals h d = some ks) : ∃ a ws es ep, x = .ref a ∧ L2.Rd H a (.dK ws) ∧ (a == sysModules) = false ∧ ws.length ≤ sizeLine ∧ Ents s.heap a es ep (ws.map fun kv => (kV kv.1, kv.2)) ∧ RVs B ρ F ks (ws.map fun p => p.2) := by
  unfold dVals at e
  split at e
  · rename_i kvs ek
    cases e
    obtain ⟨a, ws, ex, rd, r⟩ := vDk_at hr ra ek
    obtain ⟨hz, hs, es, ep, en⟩ := ents_K I rd
    exact ⟨a, ws, es, ep, ex, rd, hs, hz, en, r.vals⟩
  · cases e
/-- d.values() -/
def valsO (p d : Addr) : HO := .ext fun h => h.IsValuesView p d
def rValsV : V → List V → Hp → VK → Prop := fun x xs H Q => ∃ (a : Addr), x = .ref a ∧ xs = [] ∧ (∃ ws, L2.Rd H a (.dK ws)) ∧ ∀ p, H p = none → Q (.ref p) (upd H p (valsO p a))
end
end NC
end S3
end
section
set_option Elab.async false
set_option linter.all false
set_option maxRecDepth 100000
set_option maxHeartbeats 4000000
namespace S3S
open PySem PySem.W PySem.Calls PyProof.Rows PySem.Spec
section
variable {prog : Program} {w : World} {A : Around} {E : Value → Shared → Prop} {s : Shared} {T : String} {r d : Addr} {n : Nat} {P : Nat → Value → Prop} {OK : Heap → Prop} {Q : Value → Shared → Prop}
theorem sum_src (K : KdlSrc prog w T r d n P OK) (hh : A.handled = none) (hok : OK s.heap) (val : Nat → Int) (hval : ∀ (i : Nat) (v : Value), P i v → ∃ t : Tok, v = Value.int (val i) t)
    (h : ∀ (h' : Heap) (tk : Nat) (t' : Tok), (∀ b o, s.heap.get? b = some o → h'.get? b = some o) → Q (.int (preSum val n) t') { s with heap := h', toks := tk }) :
    wpAny (model prog w) A (call (.builtin "sum") [.ref r]) Q E s := by
  refine call_sum_walkAnyS ?_
  obtain ⟨oI, St, hit, W, st⟩ := K.iter A.in1 s hh hok
  refine hit _ _ ⟨s.heap.objs.size, _, _, _, n, P, _, val, rfl, W.toS, st, fun b hb => ?_, hval, fun s' t' hm => ?_⟩
  · show b < (s.heap.push oI).objs.size
    rw [Heap.size_push]
    rcases List.mem_cons.mp hb with e | hb
    · rw [e]; exact Nat.lt_succ_self _
    · rw [List.mem_singleton.mp hb]; exact Nat.lt_succ_of_lt (K.there _ hok).2
  · have hk : ∀ b o, s.heap.get? b = some o → s'.heap.get? b = some o := fun b o e =>
      hm.heap b o (fun hI => absurd (Heap.lt_size e) (by rw [List.mem_singleton.mp hI]; exact Nat.lt_irrefl _)) (Heap.get?_push_of_some _ e)
    rw [Moved.eq_with hm]
    exact h s'.heap s'.toks t' hk
end
end S3S
namespace S3
open PySem PySem.Spec PyProof.Rows L2
noncomputable section NC
section
variable {B : Bx} {X : Cx} {W : WX}
theorem valsO_ok {P : Program} {w : World} {H : Hp} {h : Heap} {p d : Addr} (e : h.get? p = some { cls := .type "dict_values", data := .fields #[.ref d] }) : ObjOk P w H h p (valsO p d) :=
  ⟨⟨_, e, rfl, rfl⟩, ⟨_, e⟩, fun h1 h2 x k => let ⟨o, ho, r⟩ := x; ⟨o, k o ho, r⟩⟩
theorem mt_valsV : MtR X "dict.values" rValsV := by
  intro pins s σ H x xs v us Q I rx rxs h
  obtain ⟨a, rfl, rfl, ⟨ws, ha⟩, q⟩ := h
  cases rx
  cases rxs
  obtain ⟨hz, hs, vs, kv, hdo⟩ := dk_rd I.hok ha
  have hf : H s.heap.objs.size = none := I.hok.fresh (Nat.le_refl _)
  refine call_meetsIn PySem.F.slot_dict_values hdo.typeIs PySem.F.entry_dict_values (PySem.F.args_dict_values_1 _) (meets_dict_values (mixKind X.prog X.w) a hs) ⟨⟨vs, hdo⟩, ?_⟩
  exact ⟨.ref s.heap.objs.size, upd H s.heap.objs.size (valsO s.heap.objs.size a), I.laid (t' := s.toks) (fun b u e => Heap.get?_push_of_some _ e) (Nat.le_refl _) (valsO_ok (Heap.get?_push_size _ rfl)), rfl, q _ hf⟩
/-- f(d.values()) by the values -/
def rOfVals (B : Bx) (f : List AV → Option AV) : List V → Hp → VK → Prop := fun vs H Q => ∃ p a ρ F h d xs c, vs = [.ref p] ∧ H p = some (valsO p a) ∧ HR B ρ F h H ∧ RV B ρ F d (.ref a) ∧ dVals h d = some xs ∧ f xs = some c ∧ ∀ ρ' F' H' z, Ext ρ F H ρ' F' H' → HR B ρ' F' h H' → RV B ρ' F' c z → Q z H'
def fSum (xs : List AV) : Option AV := (intsOf xs).map fun ns => .int ns.sum
theorem preSum_take (ns : List Int) : ∀ k, k ≤ ns.length → preSum (fun i => ns.getD i 0) k = (ns.take k).sum
  | 0, _ => by simp [preSum]
  | k + 1, h => by
    rw [preSum, preSum_take ns k (by omega), List.take_succ, List.sum_append]
    simp [List.getD, show k < ns.length by omega]
theorem preSum_all (ns : List Int) : preSum (fun i => ns.getD i 0) ns.length = ns.sum := by rw [preSum_take ns _ (Nat.le_refl _), List.take_length]
theorem cr_sumVals (hc : X.calm = true) : CallR X (.builtin "sum") (rOfVals B fSum) := by
  intro pins s σ H xs us Q I r hh
  obtain ⟨p, a, ρ, F, h, d, ys, c, rfl, hp, hr, ra, ed, ef, q⟩ := hh
  obtain rfl := Vals.ref1 r
  obtain ⟨a', ws, es, ep, ea, _, hs, hz, en, rs⟩ := dVals_at I hr ra ed
  cases ea
  have view : s.heap.IsValuesView p a := (show ObjOk X.prog X.w H s.heap p (valsO p a) from I.hok p _ hp).1
  unfold fSum at ef
  cases k : intsOf ys with
  | none => rw [k] at ef; cases ef
  | some ns =>
    rw [k] at ef
    cases ef
    have ew := intsOf_at rs k
    obtain ⟨raw, hsz, hat⟩ := en
    have hlen : es.size = ns.length := by
      have := congrArg List.length ew
      simp at this hsz
      omega
    refine S3S.sum_src (KdlSrc.rawValues (es := es) (ep := ep)) (I.ok.hd hc) ⟨view, raw⟩ (fun i => ns.getD i 0) (fun i v hv => ?_) fun h' tk t' hk => ?_
    · obtain ⟨hi, e⟩ := hv
      have hw : i < ws.length := by simp at hsz; omega
      obtain ⟨e', h1, h2, h3⟩ := hat i (kV ws[i].1, ws[i].2) (by rw [List.getElem?_map, List.getElem?_eq_getElem hw]; rfl)
      rw [Array.getElem?_eq_getElem hi] at h1
      cases h1
      have hni : i < ns.length := by omega
      have : (ws.map fun p => p.2)[i]? = (ns.map V.int)[i]? := by rw [ew]
      rw [List.getElem?_map, List.getElem?_eq_getElem hw, List.getElem?_map, List.getElem?_eq_getElem hni] at this
      have this : ws[i].2 = V.int ns[i] := Option.some.inj this
      have h3 : RelV ws[i].2 es[i].val := h3
      rw [this] at h3
      obtain ⟨t, et⟩ := h3
      refine ⟨t, ?_⟩
      rw [e, et]
      simp [List.getD, hni]
    · have es2 : preSum (fun i => ns.getD i 0) es.size = ns.sum := by
        rw [hlen]
        exact preSum_all ns
      rw [es2]
      exact ⟨.int _, H, I.kept hk, ⟨_, rfl⟩, q _ _ _ _ Ext.refl hr rfl⟩
end
end NC
end S3
end
section
set_option Elab.async false
set_option linter.all false
set_option maxRecDepth 100000
set_option maxHeartbeats 4000000
namespace S3
open PySem PySem.Spec PyProof.Rows L2
noncomputable section NC
section
variable {B : Bx} {X : Cx} {W : WX}
def mOfVals (f : List AV → Option AV) (m : ME) : ME := fun s h => (m s h).bind fun d h1 => match dVals h1 d with
  | some xs => match f xs with
    | some c => .ok c h1
    | none => .stk
  | none => .stk
theorem dVals_rd {ρ : List Addr} {F H : Hp} {h : AH} {d : AV} {x : V} {its : List AV} (hr : HR B ρ F h H) (ra : RV B ρ F d x) (e : dVals h d = some its) : ∃ a ws, x = .ref a ∧ L2.Rd H a (.dK ws) := by
  unfold dVals at e
  split at e
  · rename_i kvs ek
    obtain ⟨a, ws, ex, rd, _⟩ := vDk_at hr ra ek
    exact ⟨a, ws, ex, rd⟩
  · cases e
theorem vals_imp {f : List AV → Option AV} {m : ME} {σ : L2.St} {H : Hp} {Q : VK} (h : tm B W (mOfVals f m) σ H Q) : tCB (rOfVals B f) (tCons (tDM0 rValsV (tm B W m)) tNil) σ H Q := by
  obtain ⟨ρ, F, h, s, sr, hr, q⟩ := h
  refine ⟨ρ, F, h, s, sr, hr, q.andThen fun d h1 ρ1 F1 H1 x1 _ e1 hr1 rd p1 => ?_⟩
  split at p1
  · rename_i xs ei
    split at p1
    · rename_i c ec
      obtain ⟨a, ws, rfl, hd⟩ := dVals_rd hr1 rd ei
      refine ⟨⟨a, rfl, .inl ⟨ws, hd⟩⟩, a, rfl, rfl, ⟨ws, hd⟩, fun z hz => ?_⟩
      exact ⟨z, a, ρ1, F1, h1, d, xs, c, rfl, upd_same, hr1.extra (hr1.out hz) (hr1.fnone hz) (.inl hz), rd, ei, ec, fun ρ' F' H' v ex hr' rv => p1 ρ' F' H' v (ex.under hz) hr' rv⟩
    · exact p1.elim
  · exact p1.elim
theorem se_valsB {f : List AV → Option AV} {x : Str} {id : String} {o : Expr} {m : ME} {p apos cpos pos : Pos} (cr : CallR X (.builtin id) (rOfVals B f)) (hg : Gl X x) (hm : X.mg x = none) (hv : bootBuiltins x = some (.builtin id)) (ho : SE B X W o m)
    (hbase : attributeBase o "values" X.env (eval o X.env) = eval o X.env := by rfl) (hline : (apos.endLine == cpos.line) = true := by rfl) (hn : x ≠ "__name__" := by decide) (hdb : (x == ("__debug__" : Str)) = false := by decide)
    (he : starEach [.Call (.Attribute o "values" apos) [] [] cpos] X.env = (false, eval (.Call (.Attribute o "values" apos) [] [] cpos) X.env) :: starEach [] X.env := by rfl) (hpl : (backTo pos (starEach [] X.env)).any (·.1) = false := by rfl) :
    SE B X W (.Call (.Name x p) [.Call (.Attribute o "values" apos) [] [] cpos] [] pos) (mOfVals f m) :=
  PE.imp (pe_callB cr hg hm hv (pa_cons (pe_dm0 PySem.F.slot_dict_values PySem.F.type_dict_values mt_valsV ho hbase hline) pa_nil he) hn hdb he hpl) fun σ H Q h => vals_imp h
end
end NC
end S3
end
section
set_option Elab.async false
set_option linter.all false
set_option maxRecDepth 100000
set_option maxHeartbeats 4000000
namespace S3
open PySem PySem.Spec PyProof.Rows L2
noncomputable section NC
section
variable {B : Bx} {X : Cx} {W : WX}
/-- X(e): an exception told by nothing but its class -/
theorem pmk_ownE {x : Str} {e : Expr} {t : TA} {p pos : Pos} {C : Addr} {bmB : List Value} {bi newId initId : String} (F : ExcBaseFacts bi newId initId bmB) (q : PySem.W.excIn X.K C bmB newId = true) (gC : X.mg x = some (.ref C)) (kC : PySem.W.keepIn X.K (.ref C) = true) (r : Raises X (.ref C)) (hg : Gl X x) (ha : PA X [e] t) (he : starEach [e] X.env = (false, eval e X.env) :: starEach [] X.env := by rfl)
    (hdb : (x == ("__debug__" : Str)) = false := by decide) : PMk X (.Call (.Name x p) [e] [] pos) (fun σ H Q => t σ H fun vs H1 => vs.length = 1 ∧ Q (.ref C) none H1) := by
  intro pins s σ H Q I h
  refine wpAny_Call_Name_kw (ld_glob I hg gC ?_ hdb)
  refine PySem.W.callWith_K (h₀ := X.base) I.ok.mod.kin kC (thn (ha.run pos pins s σ H _ I h) fun us s1 hh => ?_) he (by rfl)
  obtain ⟨vs, H1, I1, r1, ev, eQ⟩ := hh
  refine ⟨I1.kIn, ?_⟩
  cases r1 with
  | nil => cases ev
  | cons ru rn =>
    rename_i u us'
    cases rn with
    | cons _ _ => cases ev
    | nil =>
      show wpAny _ _ (call (.ref C) [_]) _ _ _
      obtain ⟨bm, N, nm, qn, bs, hdct, sn, sub, ab, col, dd, k0, k1, k2, k3, k5, mN, hC, hN, hni, T⟩ := exc_obj I1.kIn q
      refine wpAny_call_exc_subT F T hC hN hni (fun h' e hm => ?_) (by show 1 ≤ sizeLine; rw [sizeLine_eq]; omega)
      exact mk_of I1 hm r eQ (I1.hok.gone hm.new)
def mRaiseE (c : Str) (ma : MA) : MS := fun s h => (ma s h).toS s fun as h1 => if as.length = 1 then .exc s c [] h1 else .stk
theorem ss_raiseE {x : Str} {e : Expr} {ma : MA} {p p3 pos : Pos} (E : ExT B x) (tk : Takes X W) (hc : X.calm = true) (ha : SA B X W [e] ma) (he : starEach [e] X.env = (false, eval e X.env) :: starEach [] X.env := by rfl) (hK : X.K = B.K := by rfl) (hmg : X.mg = B.mg := by rfl) (hg : Gl X x := by rfl) (hdb : (x == ("__debug__" : Str)) = false := by decide) : SS B X W (.Raise (some (.Call (.Name x p) [e] [] p3)) none pos) (mRaiseE x ma) :=
  PS.imp (ps_raise hc tk (pmk_ownE PySem.F.excBase_ValueError (by rw [hK]; exact E.q) (by rw [hmg]; exact E.mg) (by rw [hK]; exact E.kp) (raises_own (by rw [hK]; exact E.bF) (by rw [hK]; exact E.tF)) hg ha he hdb)) fun D σ H ⟨ρ, F, h, s, sr, hr, p⟩ =>
    ⟨ρ, F, h, s, sr, hr, PostS.expr sr p fun as h1 ρ1 F1 H1 vs _ e1 hr1 ra sr1 p1 => by
      split at p1
      · rename_i hl
        exact ⟨by rw [← RVs.length ra]; exact hl, p1 ρ1 F1 H1 σ _ _ Ext.refl hr1 sr1 ⟨_, E.mg, rfl, .inl ⟨rfl, trivial⟩⟩⟩
      · exact p1.elim⟩
end
end NC
end S3
end
section
set_option Elab.async false
set_option linter.all false
set_option maxRecDepth 100000
set_option maxHeartbeats 4000000
namespace S3
open PySem PySem.Spec PyProof.Rows L2
mutual
def chkV (K : PySem.W.Frag) : AV → Value → Bool
  | .int i, .int j _ => decide (i = j)
  | .str x, .str y _ => decide (x = y)
  | .rdt xs, .ref p => match K.lookup p with
    | some ⟨.type t, od, .seq its _, _⟩ => decide (t = "tuple") && od.isNone && decide (its.size ≤ 1000) && chkVs K xs its.toList
    | _ => false
  | _, _ => false
def chkVs (K : PySem.W.Frag) : List AV → List Value → Bool
  | [], [] => true
  | a :: r, v :: s => chkV K a v && chkVs K r s
  | _, _ => false
end
section
variable {B : Bx} {X : Cx} {W : WX}
mutual
theorem chkV_ok {ρ : List Addr} {F : Hp} : ∀ (a : AV) (v : Value), chkV B.K a v = true → ∃ x, RelV x v ∧ RV B ρ F a x
  | .int i, v, h => by
    cases v with
    | int j t =>
      unfold chkV at h
      have e := of_decide_eq_true h
      subst e
      exact ⟨.int i, ⟨t, rfl⟩, rfl⟩
    | _ => simp [chkV] at h
  | .str x, v, h => by
    cases v with
    | str y t =>
      unfold chkV at h
      have e := of_decide_eq_true h
      subst e
      exact ⟨.str x, ⟨t, rfl⟩, rfl⟩
    | _ => simp [chkV] at h
  | .rdt xs, v, h => by
    cases v with
    | ref p =>
      unfold chkV at h
      split at h
      · rename_i t od its n osl hk
        simp only [Bool.and_eq_true, decide_eq_true_eq] at h
        obtain ⟨⟨⟨h1, h0⟩, h2⟩, h3⟩ := h
        obtain ⟨ws, rw1, rv⟩ := chkVs_ok (ρ := ρ) (F := F) xs its.toList h3
        subst h1
        exact ⟨.ref p, rfl, p, ws, rfl, ⟨.inr ⟨_, its, n, hk, rfl, rfl, Nat.le_trans h2 (by unfold sizeLine; omega), rw1⟩, .inl ⟨_, hk, by cases od with | none => rfl | some _ => cases h0⟩⟩, rv⟩
      · cases h
    | _ => simp [chkV] at h
  | .non, v, h => by simp [chkV] at h
  | .bl _, v, h => by simp [chkV] at h
  | .tup _, v, h => by simp [chkV] at h
  | .lst _, v, h => by simp [chkV] at h
  | .rdl _, v, h => by simp [chkV] at h
  | .dK _, v, h => by simp [chkV] at h
  | .dT _, v, h => by simp [chkV] at h
  | .ins _ _, v, h => by simp [chkV] at h
  | .ref _, v, h => by simp [chkV] at h
theorem chkVs_ok {ρ : List Addr} {F : Hp} : ∀ (xs : List AV) (vs : List Value), chkVs B.K xs vs = true → ∃ ws, Vals ws vs ∧ RVs B ρ F xs ws
  | [], [], _ => ⟨[], .nil, rfl⟩
  | a :: r, v :: s, h => by
    unfold chkVs at h
    rw [Bool.and_eq_true] at h
    obtain ⟨x, r1, r2⟩ := chkV_ok (ρ := ρ) (F := F) a v h.1
    obtain ⟨ws, r3, r4⟩ := chkVs_ok (ρ := ρ) (F := F) r s h.2
    exact ⟨x :: ws, .cons r1 r3, x, ws, rfl, r2, r4⟩
  | [], _ :: _, h => by simp [chkVs] at h
  | _ :: _, [], h => by simp [chkVs] at h
end
/-- the module's name x holds the constant a -/
def ConT (B : Bx) (x : Str) (a : AV) : Prop := ∃ u, B.mg x = some u ∧ chkV B.K a u = true
theorem rv_const {a : AV} {u : Value} (h : chkV B.K a u = true) {v : V} (r : RelV v u) (ρ : List Addr) (F : Hp) : RV B ρ F a v := by
  obtain ⟨x, r1, r2⟩ := chkV_ok (ρ := ρ) (F := F) a u h
  rw [RelV.inj r r1]
  exact r2
theorem se_const {x : Str} {a : AV} {pos : Pos} (c : ConT B x a) (hg : Gl X x := by rfl) (hmg : X.mg = B.mg := by rfl) (hd : (x == ("__debug__" : Str)) = false := by decide) : SE B X W (.Name x pos) (mC a) := by
  obtain ⟨u, hu, hc⟩ := c
  obtain ⟨v, r1, _⟩ := chkV_ok (B := B) (ρ := []) (F := fun _ => none) a u hc
  exact PE.imp (pe_glob hg (by rw [hmg]; exact hu) r1 hd) fun σ H Q ⟨ρ, F, h, s, sr, hr, p⟩ => p ρ F H v Ext.refl hr (rv_const hc r1 ρ F)
end
end S3
end
section
set_option Elab.async false
set_option linter.all false
set_option maxRecDepth 100000
set_option maxHeartbeats 4000000
namespace S3
open PySem PySem.Spec PyProof.Rows L2
noncomputable section NC
structure KScope (sc scope : Scope) (x : Str) : Prop where
  kind : scope.kind = .function
  co : scope.isCoroutine = false
  gen : scope.isGenerator = false
  loc : scope.names.lookup x = some .local
  only : ∀ y ∈ scope.names, y.2 = .local → y.1 = x
  cell : ∀ y ∈ scope.names, y.2 ≠ .cell
  free : ∀ y ∈ scope.names, y.2 = .free → sc.names.lookup y.1 = some .cell ∨ sc.names.lookup y.1 = some .free
theorem KScope.has {X : Cx} {scope : Scope} {x : Str} (L : KScope X.env.scope scope x) (ok : X.Ok) : ∀ y ∈ scope.names, y.2 = .free → ∃ c, X.env.cells.lookup y.1 = some c := fun y hy e => by
  rcases L.free y hy e with k | k
  · exact ok.has _ (.inl k)
  · exact ok.has _ (.inr k)
/-- keys: numbers, texts, truth values, tuples of these -/
def noL : PyData → Bool
  | .int _ => true
  | .str _ => true
  | .bool _ => true
  | .tuple xs => noLs xs
  | _ => false
where noLs : List PyData → Bool
  | [] => true
  | x :: xs => noL x && noLs xs
mutual
theorem reads_nil {g : Heap} : ∀ (d : PyData), noL d = true → ∀ (v : Value) (as : List Addr), Reads g v d as → as = []
  | .int _, _, _, _, r => by cases r; rfl
  | .str _, _, _, _, r => by cases r; rfl
  | .bool _, _, _, _, r => by cases r; rfl
  | .tuple xs, h, _, _, r => by
    cases r with
    | tuple _ _ _ r => exact readsAll_nil xs (by simpa [noL] using h) _ _ r
  | .none, h, _, _, _ => by simp [noL] at h
  | .list _, h, _, _, _ => by simp [noL] at h
  | .dict _, h, _, _, _ => by simp [noL] at h
theorem readsAll_nil {g : Heap} : ∀ (ds : List PyData), noL.noLs ds = true → ∀ (vs : List Value) (as : List Addr), ReadsAll g vs ds as → as = []
  | [], _, _, _, r => by cases r; rfl
  | d :: ds, h, _, _, r => by
    cases r with
    | cons r1 r2 =>
      have h : (noL d && noL.noLs ds) = true := by simpa [noL.noLs] using h
      rw [Bool.and_eq_true] at h
      rw [reads_nil d h.1 _ _ r1, readsAll_nil ds h.2 _ _ r2]
      rfl
end
section
variable {B : Bx} {X : Cx}
end
end NC
end S3
end
section
set_option Elab.async false
set_option linter.all false
set_option maxRecDepth 100000
set_option maxHeartbeats 4000000
namespace S3
open PySem PySem.Spec PyProof.Rows L2
noncomputable section NC
section
variable {B : Bx} {X : Cx} {W : WX}
end
end NC
end S3
end
section
set_option Elab.async false
set_option linter.all false
set_option maxRecDepth 100000
set_option maxHeartbeats 4000000
namespace S3
open PySem PySem.Spec PyProof.Rows L2
noncomputable section NC
section
variable {B : Bx} {X : Cx} {W : WX}
end
end NC
end S3
end
section
set_option Elab.async false
set_option linter.all false
set_option maxRecDepth 100000
set_option maxHeartbeats 4000000
namespace S3
open PySem PySem.Spec PyProof.Rows L2
noncomputable section NC
section
variable {B : Bx} {X : Cx} {W : WX}
end
end NC
end S3
end
section
set_option Elab.async false
set_option linter.all false
set_option maxRecDepth 100000
set_option maxHeartbeats 4000000
namespace S3
open PySem PySem.Spec PyProof.Rows L2
noncomputable section NC
section
variable {B : Bx} {X : Cx} {W : WX} {sc : Scope}
def noX (r : Ss) : Ss := match r with
  | .exc _ _ _ _ => .stk
  | r => r
end
end NC
end S3
end
section
set_option Elab.async false
set_option linter.all false
set_option maxRecDepth 100000
set_option maxHeartbeats 4000000
namespace S3
open PySem PySem.Spec PyProof.Rows L2
noncomputable section NC
section
variable {K : PySem.W.Frag} {P : Program} {w : World} {H : Hp} {s : Shared} {a : Addr} {xs : List V}
theorem hk_list (ok : L2.HOk P w H s.heap) (kin : K.In s.heap) (h : SqL K H a xs) : ∃ its : List Value, Vals xs its ∧ PlainL s.heap a its.toArray ∧ xs.length ≤ sizeLine := by
  rcases h with h | ⟨o, its, n, hk, hc, hd, hs, hz, r⟩
  · obtain ⟨z, its, n, r, e⟩ := h.ok ok
    exact ⟨its, r, ⟨_, n, e, rfl, rfl, rfl⟩, z⟩
  · refine ⟨its.toList, r, ⟨o, n, kin a o hk, hc, hd, by simpa using hs⟩, ?_⟩
    have e := r.length
    simp only [Array.length_toList] at e
    omega
theorem hk_tuple (ok : L2.HOk P w H s.heap) (kin : K.In s.heap) (h : SqT K H a xs) : ∃ its : List Value, Vals xs its ∧ IsTup s.heap a its.toArray ∧ xs.length ≤ sizeLine := by
  rcases h with h | ⟨o, its, n, hk, hc, hs, hz, r⟩
  · obtain ⟨z, its, r, p⟩ := h.ok ok
    exact ⟨its, r, p, z⟩
  · refine ⟨its.toList, r, ⟨o, kin a o hk, hc, n, by simpa using hs⟩, ?_⟩
    have e := r.length
    simp only [Array.length_toList] at e
    omega
mutual
theorem hk_reads (ok : L2.HOk P w H s.heap) (kin : K.In s.heap) : ∀ (d : PyData) (v : V) (u : Value), Dp K H v d → RelV v u → ∃ as, Reads s.heap u d as
  | .none, _, _, h, r => by
    cases h
    cases r
    exact ⟨_, Reads.none⟩
  | .bool b, _, _, h, r => by
    cases h
    cases r
    exact ⟨_, Reads.bool b⟩
  | .int i, _, _, h, r => by
    cases h
    obtain ⟨t, rfl⟩ := r
    exact ⟨_, Reads.int i t⟩
  | .str x, _, _, h, r => by
    cases h
    obtain ⟨t, rfl⟩ := r
    exact ⟨_, Reads.str x t⟩
  | .list ds, _, _, h, r => by
    cases h with
    | lst hs ha =>
      cases r
      obtain ⟨its, rv, ⟨o, n, ho, hc, _, hd⟩, _⟩ := hk_list ok kin hs
      obtain ⟨as, hr⟩ := hk_readsAll ok kin ds _ its ha rv
      exact ⟨_, Reads.list ho hc hd hr⟩
  | .tuple ds, _, _, h, r => by
    cases h with
    | tup hs ha =>
      cases r
      obtain ⟨its, rv, ⟨o, ho, hc, n, hd⟩, _⟩ := hk_tuple ok kin hs
      obtain ⟨as, hr⟩ := hk_readsAll ok kin ds _ its ha rv
      exact ⟨_, Reads.tuple ho hc hd hr⟩
  | .dict _, _, _, h, _ => by cases h
theorem hk_readsAll (ok : L2.HOk P w H s.heap) (kin : K.In s.heap) : ∀ (ds : List PyData) (vs : List V) (us : List Value), DpAll K H vs ds → Vals vs us → ∃ as, ReadsAll s.heap us ds as
  | [], _, _, h, r => by
    cases h
    cases r
    exact ⟨_, ReadsAll.nil⟩
  | d :: ds, _, _, h, r => by
    cases h with
    | cons h1 h2 =>
      cases r with
      | cons r1 r2 =>
        obtain ⟨as, q1⟩ := hk_reads ok kin d _ _ h1 r1
        obtain ⟨bs, q2⟩ := hk_readsAll ok kin ds _ _ h2 r2
        exact ⟨_, ReadsAll.cons q1 q2⟩
end
end
section
variable {B : Bx} {X : Cx} {sc : Scope}
end
end NC
end S3
end
section
set_option Elab.async false
set_option linter.all false
set_option maxRecDepth 100000
set_option maxHeartbeats 4000000
namespace S3
open PySem PySem.Spec PyProof.Rows L2
noncomputable section NC
section
variable {B : Bx} {X : Cx}
def gStr : GL := fun as _ => match as with
  | [.int i] => if i.natAbs.log2 < 1920 then some (.str (toString i)) else none
  | _ => none
theorem cr_gStr (hK : X.K = B.K := by rfl) : CallR X (.type "str") (rmL B gStr) := by
  intro pins s σ H xs us Q I r hh
  obtain ⟨ρ, F, h, as, c, hr, ra, ec, q⟩ := hh
  unfold gStr at ec
  split at ec
  · rename_i i
    split at ec
    · rename_i hz
      cases ec
      rw [ints1 ra] at r
      exact call_str_int pins s σ H _ us Q I r ⟨i, rfl, hz, q _ _ _ _ Ext.refl hr rfl⟩
    · cases ec
  · cases ec
end
end NC
end S3
end
section
set_option Elab.async false
set_option linter.all false
set_option maxRecDepth 100000
set_option maxHeartbeats 4000000
namespace S3
open PySem PySem.Spec PyProof.Rows L2
noncomputable section NC
section
variable (B : Bx) (X : Cx)
end
section
variable {B : Bx} {X : Cx} {sc : Scope}
end
end NC
end S3
end
section
set_option Elab.async false
set_option linter.all false
set_option maxRecDepth 100000
set_option maxHeartbeats 4000000
namespace S9
open PySem PySem.Spec PyProof.Rows L2 S3
inductive LO where
  | lst (xs : List AV) | dK (kvs : List (Key × AV)) | dT (kvs : List (List Key × AV)) | lck (o : LO)
def LO.ao : LO → AO
  | .lst xs => .lst xs
  | .dK kvs => .dK kvs
  | .dT kvs => .dT kvs
  | .lck o => .lck o.ao
inductive FV where
  | val (a : AV) | own (o : LO) | oat (b : Nat) (o : LO)
inductive MO where
  | leaf (o : LO) | ins (c : Str) (fs : List (Str × FV))
inductive SD where
  | dead | val (a : AV) | own (o : MO) | at (b : Nat) (o : MO)
abbrev NR (a : AV) : Prop := S3.LV 0 a
def FAt (h : AH) : List (Str × FV) → List (Str × AV) → List Nat → Prop
  | [], fs, A => fs = [] ∧ A = []
  | (f, .val a) :: r, fs, A => ∃ r', fs = (f, a) :: r' ∧ NR a ∧ FAt h r r' A
  | (f, .own o) :: r, fs, A => ∃ b r' A', fs = (f, .ref b) :: r' ∧ h[b]? = some o.ao ∧ A = b :: A' ∧ b ∉ A' ∧ FAt h r r' A'
  | (f, .oat b o) :: r, fs, A => ∃ r' A', fs = (f, .ref b) :: r' ∧ h[b]? = some o.ao ∧ A = b :: A' ∧ b ∉ A' ∧ FAt h r r' A'
def Owns (h : AH) (b : Nat) : MO → List Nat → Prop
  | .leaf o, A => h[b]? = some o.ao ∧ A = [b]
  | .ins c fs, A => ∃ avs A', h[b]? = some (.ins c avs) ∧ FAt h fs avs A' ∧ A = b :: A' ∧ b ∉ A'
def SlotOk (h : AH) : SD → Option AV → List Nat → Prop
  | .dead, _, A => A = []
  | .val a, x, A => x = some a ∧ A = []
  | .own o, x, A => ∃ b, x = some (.ref b) ∧ Owns h b o A
  | .at b o, x, A => x = some (.ref b) ∧ Owns h b o A
/-- what stands around: the heap at the def's start, what of it the def was given -/
structure Fr where
  h0 : AH
  A0 : Nat → Prop
structure HOk (F : Fr) (h : AH) : Prop where
  cl : Closed h
  le : F.h0.length ≤ h.length
  fr : ∀ i, i < F.h0.length → ¬ F.A0 i → h[i]? = F.h0[i]?
structure FpOk (F : Fr) (h : AH) (fp : Nat → List Nat) : Prop where
  dj : ∀ i j a, a ∈ fp i → a ∈ fp j → i = j
  fresh : ∀ i a, a ∈ fp i → F.A0 a ∨ F.h0.length ≤ a
structure EnvAt (F : Fr) (ds : List SD) (s : Sl) (h : AH) (fp : Nat → List Nat) : Prop where
  len : s.length = ds.length
  slot : ∀ i d, ds[i]? = some d → ∃ x, s[i]? = some x ∧ SlotOk h d x (fp i)
  out : ∀ i, ds.length ≤ i → fp i = []
  hok : HOk F h
  fok : FpOk F h fp
def EnvP (F : Fr) (ds : List SD) (s : Sl) (h : AH) : Prop := ∃ fp, EnvAt F ds s h fp
section
variable {F : Fr} {ds : List SD} {s : Sl} {h h' : AH} {fp : Nat → List Nat}
theorem FAt.lt : ∀ {fs : List (Str × FV)} {avs : List (Str × AV)} {A : List Nat}, FAt h fs avs A → ∀ a ∈ A, a < h.length
  | [], _, _, w, a, ha => by
    obtain ⟨_, rfl⟩ := w
    cases ha
  | (f, .val v) :: r, _, _, w, a, ha => by
    obtain ⟨r', rfl, _, w⟩ := w
    exact FAt.lt w a ha
  | (f, .own o) :: r, _, _, w, a, ha => by
    obtain ⟨b, r', A', rfl, e, rfl, _, w⟩ := w
    rcases List.mem_cons.mp ha with rfl | ha
    · exact (List.getElem?_eq_some_iff.mp e).1
    · exact FAt.lt w a ha
  | (f, .oat b o) :: r, _, _, w, a, ha => by
    obtain ⟨r', A', rfl, e, rfl, _, w⟩ := w
    rcases List.mem_cons.mp ha with rfl | ha
    · exact (List.getElem?_eq_some_iff.mp e).1
    · exact FAt.lt w a ha
theorem Owns.lt {b : Nat} {o : MO} {A : List Nat} (w : Owns h b o A) : ∀ a ∈ A, a < h.length := by
  intro a ha
  cases o with
  | leaf o =>
    obtain ⟨e, rfl⟩ := w
    obtain rfl := List.mem_singleton.mp ha
    exact (List.getElem?_eq_some_iff.mp e).1
  | ins c fs =>
    obtain ⟨avs, A', e, w, rfl, _⟩ := w
    rcases List.mem_cons.mp ha with rfl | ha
    · exact (List.getElem?_eq_some_iff.mp e).1
    · exact w.lt a ha
theorem FAt.frame : ∀ {fs : List (Str × FV)} {avs : List (Str × AV)} {A : List Nat}, FAt h fs avs A → (∀ a ∈ A, h'[a]? = h[a]?) → FAt h' fs avs A
  | [], _, _, w, _ => w
  | (f, .val v) :: r, _, _, w, e => by
    obtain ⟨r', rfl, n, w⟩ := w
    exact ⟨r', rfl, n, w.frame e⟩
  | (f, .own o) :: r, _, _, w, e => by
    obtain ⟨b, r', A', rfl, e1, rfl, n, w⟩ := w
    exact ⟨b, r', A', rfl, by rw [e b List.mem_cons_self]; exact e1, rfl, n, w.frame fun a ha => e a (List.mem_cons_of_mem _ ha)⟩
  | (f, .oat b o) :: r, _, _, w, e => by
    obtain ⟨r', A', rfl, e1, rfl, n, w⟩ := w
    exact ⟨r', A', rfl, by rw [e b List.mem_cons_self]; exact e1, rfl, n, w.frame fun a ha => e a (List.mem_cons_of_mem _ ha)⟩
theorem Owns.frame {b : Nat} {o : MO} {A : List Nat} (w : Owns h b o A) (e : ∀ a ∈ A, h'[a]? = h[a]?) : Owns h' b o A := by
  cases o with
  | leaf o => obtain ⟨e1, rfl⟩ := w; exact ⟨by rw [e b (List.mem_singleton.mpr rfl)]; exact e1, rfl⟩
  | ins c fs =>
    obtain ⟨avs, A', e1, w, rfl, n⟩ := w
    exact ⟨avs, A', by rw [e b List.mem_cons_self]; exact e1, w.frame fun a ha => e a (List.mem_cons_of_mem _ ha), rfl, n⟩
theorem SlotOk.frame {d : SD} {x : Option AV} {A : List Nat} (w : SlotOk h d x A) (e : ∀ a ∈ A, h'[a]? = h[a]?) : SlotOk h' d x A := by
  cases d with
  | dead => exact w
  | val a => exact w
  | own o => obtain ⟨b, e1, w⟩ := w; exact ⟨b, e1, w.frame e⟩
  | «at» b o => obtain ⟨e1, w⟩ := w; exact ⟨e1, w.frame e⟩
theorem SlotOk.lt {d : SD} {x : Option AV} {A : List Nat} (w : SlotOk h d x A) : ∀ a ∈ A, a < h.length := by
  cases d with
  | dead => intro a ha; have : A = [] := w; subst this; cases ha
  | val v => intro a ha; obtain ⟨_, rfl⟩ := w; cases ha
  | own o => obtain ⟨b, e1, w⟩ := w; exact w.lt
  | «at» b o => obtain ⟨e1, w⟩ := w; exact w.lt
/-- the heap goes on from h to h', what of it changed lies in A or is new -/
structure Stp (A : List Nat) (h h' : AH) : Prop where
  cl : Closed h'
  le : h.length ≤ h'.length
  fr : ∀ i, i < h.length → i ∉ A → h'[i]? = h[i]?
theorem Stp.refl (c : Closed h) {A : List Nat} : Stp A h h := ⟨c, Nat.le_refl _, fun _ _ _ => rfl⟩
theorem Stp.trans {A : List Nat} {h1 h2 h3 : AH} (x : Stp A h1 h2) (y : Stp A h2 h3) : Stp A h1 h3 := ⟨y.cl, Nat.le_trans x.le y.le, fun i hi n => by rw [y.fr i (Nat.lt_of_lt_of_le hi x.le) n, x.fr i hi n]⟩
theorem EnvAt.lt (w : EnvAt F ds s h fp) {i a : Nat} (ha : a ∈ fp i) : a < h.length := by
  rcases Nat.lt_or_ge i ds.length with hi | hi
  · obtain ⟨x, _, sk⟩ := w.slot i ds[i] (List.getElem?_eq_getElem hi)
    exact sk.lt a ha
  · rw [w.out i hi] at ha; cases ha
def updF (fp : Nat → List Nat) (i : Nat) (A : List Nat) : Nat → List Nat := fun j => if j = i then A else fp j
/-- slot i is given something new -/
theorem EnvAt.put (w : EnvAt F ds s h fp) {i : Nat} (hi : i < ds.length) {d : SD} {x : Option AV} {A : List Nat} (hs : Stp (fp i) h h') (so : SlotOk h' d x A) (hA : ∀ a ∈ A, a ∈ fp i ∨ h.length ≤ a) : EnvAt F (ds.set i d) (s.set i x) h' (updF fp i A) := by
  have keep : ∀ j, j ≠ i → ∀ a ∈ fp j, h'[a]? = h[a]? := fun j hj a ha => hs.fr a (w.lt ha) fun z => hj (w.fok.dj j i a ha z)
  refine ⟨by rw [List.length_set, List.length_set, w.len], fun j d' e => ?_, fun j hj => ?_, ⟨hs.cl, Nat.le_trans w.hok.le hs.le, fun j hj n => ?_⟩, ⟨fun j k a h1 h2 => ?_, fun j a h1 => ?_⟩⟩
  · by_cases hj : j = i
    · subst hj
      rw [List.getElem?_set_self hi] at e
      cases e
      refine ⟨x, by rw [List.getElem?_set_self (by rw [w.len]; exact hi)], ?_⟩
      unfold updF; rw [if_pos rfl]; exact so
    · rw [List.getElem?_set_ne (Ne.symm hj)] at e
      obtain ⟨y, e1, sk⟩ := w.slot j d' e
      refine ⟨y, by rw [List.getElem?_set_ne (Ne.symm hj)]; exact e1, ?_⟩
      unfold updF; rw [if_neg hj]; exact sk.frame (keep j hj)
  · rw [List.length_set] at hj
    unfold updF; rw [if_neg (by omega)]; exact w.out j hj
  · rw [hs.fr j (Nat.lt_of_lt_of_le hj w.hok.le) fun z => ?_, w.hok.fr j hj n]
    rcases w.fok.fresh i j z with z | z
    · exact n z
    · omega
  · have aux : ∀ k a, a ∈ updF fp i A k → (k = i ∧ (a ∈ fp i ∨ h.length ≤ a)) ∨ (k ≠ i ∧ a ∈ fp k) := fun k a hk => by
      unfold updF at hk
      by_cases e : k = i
      · rw [if_pos e] at hk; exact .inl ⟨e, hA a hk⟩
      · rw [if_neg e] at hk; exact .inr ⟨e, hk⟩
    rcases aux j a h1 with ⟨e1, q1⟩ | ⟨e1, q1⟩ <;> rcases aux k a h2 with ⟨e2, q2⟩ | ⟨e2, q2⟩
    · rw [e1, e2]
    · rcases q1 with q1 | q1
      · exact absurd (w.fok.dj k i a q2 q1) e2
      · have := w.lt q2; omega
    · rcases q2 with q2 | q2
      · exact absurd (w.fok.dj j i a q1 q2) e1
      · have := w.lt q1; omega
    · exact w.fok.dj j k a q1 q2
  · unfold updF at h1
    by_cases e : j = i
    · rw [if_pos e] at h1
      rcases hA a h1 with z | z
      · exact w.fok.fresh i a z
      · have := w.hok.le; exact .inr (by omega)
    · rw [if_neg e] at h1; exact w.fok.fresh j a h1
theorem set_self {α : Type} {l : List α} {i : Nat} {x : α} (e : l[i]? = some x) : l.set i x = l := by
  obtain ⟨h1, h2⟩ := List.getElem?_eq_some_iff.mp e
  rw [← h2]; exact List.set_getElem_self h1
/-- .. its value staying (a thing in it changed) -/
theorem EnvAt.upd (w : EnvAt F ds s h fp) {i : Nat} {d0 d : SD} {x : Option AV} {A : List Nat} (e0 : ds[i]? = some d0) (ex : s[i]? = some x) (hs : Stp (fp i) h h') (so : SlotOk h' d x A) (hA : ∀ a ∈ A, a ∈ fp i ∨ h.length ≤ a) : EnvAt F (ds.set i d) s h' (updF fp i A) := by
  have := w.put (List.getElem?_eq_some_iff.mp e0).1 hs so hA
  rw [set_self ex] at this
  exact this
theorem EnvP.setVal (w : EnvP F ds s h) {i : Nat} (hi : i < ds.length) (a : AV) : EnvP F (ds.set i (.val a)) (s.set i (some a)) h := by
  obtain ⟨fp, w⟩ := w
  exact ⟨_, w.put hi (A := []) (Stp.refl w.hok.cl) ⟨rfl, rfl⟩ fun _ z => nomatch z⟩
theorem EnvP.kill (w : EnvP F ds s h) {i : Nat} (hi : i < ds.length) : EnvP F (ds.set i .dead) (s.set i none) h := by
  obtain ⟨fp, w⟩ := w
  exact ⟨_, w.put hi (A := []) (Stp.refl w.hok.cl) rfl fun _ z => nomatch z⟩
theorem EnvP.getVal (w : EnvP F ds s h) {i : Nat} {a : AV} (e : ds[i]? = some (.val a)) : s[i]? = some (some a) := by
  obtain ⟨fp, w⟩ := w
  obtain ⟨x, e1, sk, _⟩ := w.slot i _ e
  rw [e1, sk]
theorem EnvP.cl (w : EnvP F ds s h) : Closed h := by
  obtain ⟨fp, w⟩ := w
  exact w.hok.cl
/-- the same at an own thing, given at the start or made here -/
def SD.isO (d : SD) (o : MO) : Prop := d = .own o ∨ ∃ b, d = .at b o
def SD.re (d : SD) (o : MO) : SD := match d with
  | .at b _ => .at b o
  | _ => .own o
theorem EnvAt.getO (w : EnvAt F ds s h fp) {i : Nat} {d : SD} {o : MO} (e : ds[i]? = some d) (ho : d.isO o) : ∃ b, s[i]? = some (some (.ref b)) ∧ Owns h b o (fp i) ∧ ∀ h' o' A, Owns h' b o' A → SlotOk h' (d.re o') (some (.ref b)) A := by
  obtain ⟨x, e1, sk⟩ := w.slot i _ e
  rcases ho with rfl | ⟨b, rfl⟩
  · obtain ⟨b, rfl, sk⟩ := sk
    exact ⟨b, e1, sk, fun h' o' A w => ⟨b, rfl, w⟩⟩
  · obtain ⟨rfl, sk⟩ := sk
    exact ⟨b, e1, sk, fun h' o' A w => ⟨rfl, w⟩⟩
/-- what an own thing becomes -/
theorem EnvP.updO (w : EnvAt F ds s h fp) {i : Nat} {d : SD} {o o' : MO} {b : Nat} {A : List Nat} (e : ds[i]? = some d) (ho : d.isO o) (eb : s[i]? = some (some (.ref b))) (hs : Stp (fp i) h h') (so : Owns h' b o' A) (hA : ∀ a ∈ A, a ∈ fp i ∨ h.length ≤ a) : EnvP F (ds.set i (d.re o')) s h' := by
  obtain ⟨b2, e2, _, k⟩ := w.getO e ho
  rw [eb] at e2; cases e2
  exact ⟨_, w.upd e eb hs (k h' o' A so) hA⟩
end
section
variable {h : AH} {b : Nat} {o o' : AO}
theorem closed_set (c : Closed h) (l : S3.LO h.length o) : Closed (h.set b o) := fun i x e => by
  rw [List.length_set]
  by_cases hb : i = b
  · subst hb
    rcases Nat.lt_or_ge i h.length with hi | hi
    · rw [List.getElem?_set_self hi] at e; cases e; exact l
    · rw [List.getElem?_eq_none (by rw [List.length_set]; exact hi)] at e; cases e
  · rw [List.getElem?_set_ne (Ne.symm hb)] at e; exact c i x e
theorem closed_add (c : Closed h) (l : S3.LO (h.length + 1) o) : Closed (h ++ [o]) := fun i x e => by
  rw [List.length_append, List.length_singleton]
  rcases Nat.lt_trichotomy i h.length with hi | hi | hi
  · rw [List.getElem?_append_left hi] at e; exact (c i x e).mono (by omega)
  · subst hi
    rw [List.getElem?_append_right (Nat.le_refl _), Nat.sub_self] at e; cases e; exact l
  · rw [List.getElem?_eq_none (by rw [List.length_append, List.length_singleton]; omega)] at e; cases e
theorem Stp.set {A : List Nat} (c : Closed h) (l : S3.LO h.length o) (hb : b ∈ A) : Stp A h (h.set b o) := ⟨closed_set c l, by rw [List.length_set]; exact Nat.le_refl _, fun i _ n => List.getElem?_set_ne (by rintro rfl; exact n hb)⟩
theorem Stp.add {A : List Nat} (c : Closed h) (l : S3.LO (h.length + 1) o) : Stp A h (h ++ [o]) := ⟨closed_add c l, by rw [List.length_append]; exact Nat.le_add_right _ _, fun i hi _ => List.getElem?_append_left hi⟩
theorem Stp.mono {A A' : List Nat} {h' : AH} (w : Stp A h h') (s : ∀ a ∈ A, a ∈ A') : Stp A' h h' := ⟨w.cl, w.le, fun i hi n => w.fr i hi fun z => n (s i z)⟩
end
end S9
end
section
set_option Elab.async false
set_option linter.all false
set_option maxRecDepth 100000
set_option maxHeartbeats 4000000
namespace S9
open PySem PySem.Spec PyProof.Rows L2 S3
def PE (F : Fr) (ds : List SD) (e : ME) (v : AV) : Prop := ∀ s h, EnvP F ds s h → e s h = .ok v h
def PV (F : Fr) (ds : List SD) (e : ME) (V : AH → AV → Prop) : Prop := ∀ s h, EnvP F ds s h → ∃ v, e s h = .ok v h ∧ V h v
def PT (F : Fr) (ds : List SD) (c : MT) (b : Bool) : Prop := ∀ s h, EnvP F ds s h → c s h = .ok b h
def PA (F : Fr) (ds : List SD) (m : MA) (vs : List AV) : Prop := ∀ s h, EnvP F ds s h → m s h = .ok vs h
def PO (F : Fr) (ds : List SD) (m : S3.MO) (o : Option Int) : Prop := ∀ s h, EnvP F ds s h → m s h = .ok o h
/-- views -/
def VE (a : AV) : AH → AV → Prop := fun _ v => v = a
def VO (o : LO) : AH → AV → Prop := fun h v => ∃ b, v = .ref b ∧ h[b]? = some o.ao
def IsSq (V : AH → AV → Prop) (xs : List AV) : Prop := ∀ h v, V h v → vSq h v = some xs
def IsD (V : AH → AV → Prop) (d : DV) : Prop := ∀ h v, V h v → vD h v = some d
def IsPy (V : AH → AV → Prop) (d : PyData) : Prop := ∀ h v, V h v → pyv h v = d
section
variable {F : Fr} {ds : List SD} {τ : Type}
theorem pe_var {i : Nat} {a : AV} (e : ds[i]? = some (.val a)) : PE F ds (mVar i) a := fun s h w => by
  unfold mVar; rw [w.getVal e]
theorem pe_c {a : AV} : PE F ds (mC a) a := fun s h w => rfl
theorem pe_bin {g : G2} {a b : ME} {va vb c : AV} (pa : PE F ds a va) (pb : PE F ds b vb) (o : ∀ h, g va vb h = some c) : PE F ds (mBin g a b) c := fun s h w => by
  show (a s h).bind _ = _
  rw [pa s h w, bind_ok, pb s h w, bind_ok, o h]; rfl
theorem pe_un {g : G1} {a : ME} {va c : AV} (pa : PE F ds a va) (o : ∀ h, g va h = some c) : PE F ds (mUn g a) c := fun s h w => by
  show (a s h).bind _ = _
  rw [pa s h w, bind_ok, o h]; rfl
theorem pe_fn {g : GL} {m : MA} {vs : List AV} {c : AV} (pa : PA F ds m vs) (o : ∀ h, g vs h = some c) : PE F ds (mFn g m) c := fun s h w => by
  show (m s h).bind _ = _
  rw [pa s h w, bind_ok, o h]; rfl
theorem pa_nil : PA F ds mNil [] := fun s h w => rfl
theorem pa_cons {a : ME} {r : MA} {v : AV} {vs : List AV} (pa : PE F ds a v) (pr : PA F ds r vs) : PA F ds (mCons a r) (v :: vs) := fun s h w => by
  show (a s h).bind _ = _
  rw [pa s h w, bind_ok, pr s h w]; rfl
theorem pe_if {c : MT} {x y : ME} {b : Bool} {E : τ → AV} {vx vy : τ} (pc : PT F ds c b) (px : b = true → PE F ds x (E vx)) (py : b = false → PE F ds y (E vy)) : PE F ds (mIf c x y) (E (if b = true then vx else vy)) := fun s h w => by
  show (c s h).bind _ = _
  rw [pc s h w, bind_ok]
  cases b with
  | true => exact px rfl s h w
  | false => exact py rfl s h w
theorem pt_test {e : ME} {b : Bool} (p : PE F ds e (.bl b)) : PT F ds (mTest e) b := fun s h w => by
  show (e s h).bind _ = _
  rw [p s h w]; rfl
theorem pt_and {a c : MT} {x y : Bool} (pa : PT F ds a x) (pc : x = true → PT F ds c y) : PT F ds (mAnd a c) (x && y) := fun s h w => by
  show (a s h).bind _ = _
  rw [pa s h w, bind_ok]
  cases x with
  | true => exact pc rfl s h w
  | false => rfl
theorem pt_or {a c : MT} {x y : Bool} (pa : PT F ds a x) (pc : x = false → PT F ds c y) : PT F ds (mOr a c) (x || y) := fun s h w => by
  show (a s h).bind _ = _
  rw [pa s h w, bind_ok]
  cases x with
  | true => rfl
  | false => exact pc rfl s h w
theorem pt_not {a : MT} {x : Bool} (pa : PT F ds a x) : PT F ds (mNot a) (!x) := fun s h w => by
  show (a s h).bind _ = _
  rw [pa s h w]; rfl
theorem pt_yes : PT F ds mYes true := fun s h w => rfl
theorem pe_chain {g g' : G2} {a b c : ME} {va vb vc : AV} {x y : Bool} (pa : PE F ds a va) (pb : PE F ds b vb) (pc : x = true → PE F ds c vc) (o1 : ∀ h, g va vb h = some (.bl x)) (o2 : x = true → ∀ h, g' vb vc h = some (.bl y)) : PE F ds (mChain g g' a b c) (.bl (x && y)) := fun s h w => by
  show (a s h).bind _ = _
  rw [pa s h w, bind_ok, pb s h w, bind_ok, o1 h]
  cases x with
  | true => show (c s h).bind _ = _; rw [pc rfl s h w, bind_ok, o2 rfl h]; rfl
  | false => rfl
theorem po_no : PO F ds mNoPart none := fun s h w => rfl
theorem po_some {e : ME} {i : Int} (p : PE F ds e (.int i)) : PO F ds (mPart e) (some i) := fun s h w => by
  show (e s h).bind _ = _
  rw [p s h w]; rfl
theorem pe_sl {e : ME} {lo hi : S3.MO} {a c : AV} {l u : Option Int} (pa : PE F ds e a) (pl : PO F ds lo l) (pu : PO F ds hi u) (o : ∀ h, gSl a l u h = some c) : PE F ds (mSl e lo hi) c := fun s h w => by
  show (e s h).bind _ = _
  rw [pa s h w, bind_ok, pl s h w, bind_ok, pu s h w, bind_ok, o h]; rfl
theorem pv_e {e : ME} {a : AV} (p : PE F ds e a) : PV F ds e (VE a) := fun s h w => ⟨a, p s h w, rfl⟩
theorem pv_own {i : Nat} {d : SD} {o : LO} (e : ds[i]? = some d) (ho : d.isO (.leaf o)) : PV F ds (mVar i) (VO o) := fun s h w => by
  obtain ⟨fp, w⟩ := w
  obtain ⟨b, e1, ⟨e2, _⟩, _⟩ := w.getO e ho
  exact ⟨.ref b, by unfold mVar; rw [e1], b, rfl, e2⟩
theorem FAt.lookV {h : AH} {f : Str} : ∀ {fs : List (Str × FV)} {avs : List (Str × AV)} {A : List Nat} {a : AV}, FAt h fs avs A → fs.lookup f = some (.val a) → avs.lookup f = some a
  | [], _, _, _, _, e => nomatch e
  | (g, .val v) :: r, _, _, a, w, e => by
    obtain ⟨r', rfl, _, w⟩ := w
    rw [List.lookup_cons] at e ⊢
    cases k : f == g with
    | true => rw [k] at e; injection e with e; injection e with e; rw [e]
    | false => rw [k] at e; exact w.lookV e
  | (g, .own o) :: r, _, _, a, w, e => by
    obtain ⟨b, r', A', rfl, _, _, _, w⟩ := w
    rw [List.lookup_cons] at e ⊢
    cases k : f == g with
    | true => rw [k] at e; injection e with e; cases e
    | false => rw [k] at e; exact w.lookV e
  | (g, .oat b o) :: r, _, _, a, w, e => by
    obtain ⟨r', A', rfl, _, _, _, w⟩ := w
    rw [List.lookup_cons] at e ⊢
    cases k : f == g with
    | true => rw [k] at e; injection e with e; cases e
    | false => rw [k] at e; exact w.lookV e
theorem FAt.lookO {h : AH} {f : Str} : ∀ {fs : List (Str × FV)} {avs : List (Str × AV)} {A : List Nat} {o : LO}, FAt h fs avs A → fs.lookup f = some (.own o) → ∃ b, avs.lookup f = some (.ref b) ∧ h[b]? = some o.ao ∧ b ∈ A
  | [], _, _, _, _, e => nomatch e
  | (g, .val v) :: r, _, _, a, w, e => by
    obtain ⟨r', rfl, _, w⟩ := w
    rw [List.lookup_cons] at e ⊢
    cases k : f == g with
    | true => rw [k] at e; injection e with e; cases e
    | false => rw [k] at e; exact w.lookO e
  | (g, .own o) :: r, _, _, a, w, e => by
    obtain ⟨b, r', A', rfl, eb, rfl, _, w⟩ := w
    rw [List.lookup_cons] at e ⊢
    cases k : f == g with
    | true => rw [k] at e; injection e with e; injection e with e; subst e; exact ⟨b, rfl, eb, List.mem_cons_self⟩
    | false =>
      rw [k] at e
      obtain ⟨b', e1, e2, e3⟩ := w.lookO e
      exact ⟨b', e1, e2, List.mem_cons_of_mem _ e3⟩
  | (g, .oat b o) :: r, _, _, a, w, e => by
    obtain ⟨r', A', rfl, eb, rfl, _, w⟩ := w
    rw [List.lookup_cons] at e ⊢
    cases k : f == g with
    | true => rw [k] at e; injection e with e; cases e
    | false =>
      rw [k] at e
      obtain ⟨b', e1, e2, e3⟩ := w.lookO e
      exact ⟨b', e1, e2, List.mem_cons_of_mem _ e3⟩
theorem vIns_ref {h : AH} {b : Nat} {c : Str} {avs : List (Str × AV)} (e : h[b]? = some (.ins c avs)) : vIns c h (.ref b) = some avs := by
  simp only [vIns, e, if_true]
theorem pe_fldO {i : Nat} {d : SD} {c f : Str} {fs : List (Str × FV)} {a : AV} (e : ds[i]? = some d) (ho : d.isO (.ins c fs)) (el : fs.lookup f = some (.val a)) : PE F ds (mUn (gFld c f) (mVar i)) a := fun s h w => by
  obtain ⟨fp, w⟩ := w
  obtain ⟨b, e1, ⟨avs, A', e2, wf, _⟩, _⟩ := w.getO e ho
  have ev : mVar i s h = .ok (.ref b) h := by unfold mVar; rw [e1]
  show (mVar i s h).bind _ = _
  rw [ev, bind_ok]
  unfold gFld
  rw [vIns_ref e2]
  show ofO (avs.lookup f) h = _
  rw [wf.lookV el]; rfl
theorem pv_fldO {i : Nat} {d : SD} {c f : Str} {fs : List (Str × FV)} {o : LO} (e : ds[i]? = some d) (ho : d.isO (.ins c fs)) (el : fs.lookup f = some (.own o)) : PV F ds (mUn (gFld c f) (mVar i)) (VO o) := fun s h w => by
  obtain ⟨fp, w⟩ := w
  obtain ⟨b, e1, ⟨avs, A', e2, wf, _⟩, _⟩ := w.getO e ho
  have ev : mVar i s h = .ok (.ref b) h := by unfold mVar; rw [e1]
  obtain ⟨b', e3, e4, _⟩ := wf.lookO el
  refine ⟨.ref b', ?_, b', rfl, e4⟩
  show (mVar i s h).bind _ = _
  rw [ev, bind_ok]
  unfold gFld
  rw [vIns_ref e2]
  show ofO (avs.lookup f) h = _
  rw [e3]; rfl
/-- a frozen instance's field -/
theorem pe_fld {e : ME} {c f : Str} {fs : List (Str × AV)} {a : AV} (p : PE F ds e (.ins c fs)) (el : fs.lookup f = some a) : PE F ds (mUn (gFld c f) e) a := pe_un p fun h => by
  simp only [gFld, vIns, if_true]; exact el
theorem pe_binV {g : G2} {a b : ME} {V1 V2 : AH → AV → Prop} {c : AV} (pa : PV F ds a V1) (pb : PV F ds b V2) (o : ∀ h x y, V1 h x → V2 h y → g x y h = some c) : PE F ds (mBin g a b) c := fun s h w => by
  obtain ⟨x, e1, v1⟩ := pa s h w
  obtain ⟨y, e2, v2⟩ := pb s h w
  show (a s h).bind _ = _
  rw [e1, bind_ok, e2, bind_ok, o h x y v1 v2]; rfl
theorem pe_fn1 {g : GL} {a : ME} {V : AH → AV → Prop} {c : AV} (pa : PV F ds a V) (o : ∀ h x, V h x → g [x] h = some c) : PE F ds (mFn g (mCons a mNil)) c := fun s h w => by
  obtain ⟨x, e1, v1⟩ := pa s h w
  show ((a s h).bind _).bind _ = _
  rw [e1, bind_ok]
  show ofO (g [x] h) h = _
  rw [o h x v1]; rfl
theorem sq_lst {xs : List AV} : IsSq (VE (.lst xs)) xs := fun h v e => by subst e; rfl
theorem sq_tup {xs : List AV} : IsSq (VE (.tup xs)) xs := fun h v e => by subst e; rfl
theorem d_oK {kvs : List (Key × AV)} : IsD (VO (.dK kvs)) (.k kvs) := fun h v ⟨b, e1, e2⟩ => by
  subst e1; simp only [vD, e2, LO.ao]
theorem py_lstO {xs : List AV} : IsPy (VO (.lst xs)) (.list (pys xs)) := fun h v ⟨b, e1, e2⟩ => by
  subst e1; unfold pyv; simp only [e2, LO.ao]
end
end S9
end
section
set_option Elab.async false
set_option linter.all false
set_option maxRecDepth 100000
set_option maxHeartbeats 4000000
namespace S9
open PySem PySem.Spec PyProof.Rows L2 S3
inductive ER (M Y : Type) where
  | ok (y : Y) | exc (c : Str) (m : M) | stk
inductive Ct (N S R M : Type) where
  | nx (y : N) | bk (y : S) | ct (y : S) | rt (z : R) | exc (c : Str) (m : M) | stk
def LetC {α β : Type} (x : α) (k : α → β) : β := k x
open Classical in
noncomputable def chk {N S R M : Type} (G : Prop) (t : Ct N S R M) : Ct N S R M := if G then t else .stk
open Classical in
noncomputable def chkE {M Y : Type} (G : Prop) (t : ER M Y) : ER M Y := if G then t else .stk
section
variable {M M' Y Y' Z N N' S R α β : Type}
def ER.bind (t : ER M Y) (k : Y → ER M Z) : ER M Z := match t with
  | .ok y => k y
  | .exc c m => .exc c m
  | .stk => .stk
def ER.map (t : ER M Y) (f : Y → Z) : ER M Z := match t with
  | .ok y => .ok (f y)
  | .exc c m => .exc c m
  | .stk => .stk
def ER.mx (t : ER M Y) (f : M → M') : ER M' Y := match t with
  | .ok y => .ok y
  | .exc c m => .exc c (f m)
  | .stk => .stk
def ER.bindC (t : ER M Y) (k : Y → Ct N S R M) : Ct N S R M := match t with
  | .ok y => k y
  | .exc c m => .exc c m
  | .stk => .stk
def Ct.bind (t : Ct N S R M) (k : N → Ct N' S R M) : Ct N' S R M := match t with
  | .nx y => k y
  | .bk y => .bk y
  | .ct y => .ct y
  | .rt z => .rt z
  | .exc c m => .exc c m
  | .stk => .stk
def Ct.fin (t : Ct Y S Y M) : ER M Y := match t with
  | .nx y => .ok y
  | .rt y => .ok y
  | .exc c m => .exc c m
  | _ => .stk
@[simp] theorem letC_eq (x : α) (k : α → β) : LetC x k = k x := rfl
@[simp] theorem er_bind_ok (y : Y) (k : Y → ER M Z) : (ER.ok y).bind k = k y := rfl
@[simp] theorem er_bind_exc (c : Str) (m : M) (k : Y → ER M Z) : (ER.exc c m).bind k = .exc c m := rfl
@[simp] theorem er_bind_stk (k : Y → ER M Z) : (ER.stk).bind k = .stk := rfl
@[simp] theorem er_map_ok (y : Y) (k : Y → Z) : (ER.ok y : ER M Y).map k = .ok (k y) := rfl
@[simp] theorem er_map_exc (c : Str) (m : M) (k : Y → Z) : (ER.exc c m).map k = .exc c m := rfl
@[simp] theorem er_map_stk (k : Y → Z) : (ER.stk : ER M Y).map k = .stk := rfl
@[simp] theorem er_mx_ok (y : Y) (f : M → M') : (ER.ok y : ER M Y).mx f = .ok y := rfl
@[simp] theorem er_mx_exc (c : Str) (m : M) (f : M → M') : (ER.exc c m : ER M Y).mx f = .exc c (f m) := rfl
@[simp] theorem er_mx_stk (f : M → M') : (ER.stk : ER M Y).mx f = .stk := rfl
@[simp] theorem er_bindC_ok (y : Y) (k : Y → Ct N S R M) : (ER.ok y).bindC k = k y := rfl
@[simp] theorem er_bindC_exc (c : Str) (m : M) (k : Y → Ct N S R M) : (ER.exc c m).bindC k = .exc c m := rfl
@[simp] theorem er_bindC_stk (k : Y → Ct N S R M) : (ER.stk).bindC k = .stk := rfl
@[simp] theorem ct_bind_nx (y : N) (k : N → Ct N' S R M) : (Ct.nx y).bind k = k y := rfl
@[simp] theorem ct_bind_bk (y : S) (k : N → Ct N' S R M) : (Ct.bk y).bind k = .bk y := rfl
@[simp] theorem ct_bind_ct (y : S) (k : N → Ct N' S R M) : (Ct.ct y).bind k = .ct y := rfl
@[simp] theorem ct_bind_rt (y : R) (k : N → Ct N' S R M) : (Ct.rt y).bind k = .rt y := rfl
@[simp] theorem ct_bind_exc (c : Str) (m : M) (k : N → Ct N' S R M) : (Ct.exc c m).bind k = .exc c m := rfl
@[simp] theorem ct_bind_stk (k : N → Ct N' S R M) : (Ct.stk).bind k = .stk := rfl
@[simp] theorem ct_fin_nx (y : Y) : (Ct.nx y : Ct Y S Y M).fin = .ok y := rfl
@[simp] theorem ct_fin_rt (y : Y) : (Ct.rt y : Ct Y S Y M).fin = .ok y := rfl
@[simp] theorem ct_fin_exc (c : Str) (m : M) : (Ct.exc c m : Ct Y S Y M).fin = .exc c m := rfl
theorem chk_t {G : Prop} (g : G) (t : Ct N S R M) : chk G t = t := if_pos g
theorem chkE_t {G : Prop} (g : G) (t : ER M Y) : chkE G t = t := if_pos g
end
structure Ds (N S R M : Type) where
  nx : N → List SD
  lp : S → List SD
  rt : R → List SD × SD
  ex : M → List SD
def PostC {N S R M : Type} (F : Fr) (D : Ds N S R M) (t : Ct N S R M) (r : Ss) : Prop := match t with
  | .nx y => ∃ s h, r = .nx s h ∧ EnvP F (D.nx y) s h
  | .bk y => ∃ s h, r = .bk s h ∧ EnvP F (D.lp y) s h
  | .ct y => ∃ s h, r = .ct s h ∧ EnvP F (D.lp y) s h
  | .rt z => ∃ v s h, r = .rt v h ∧ s.length = (D.rt z).1.length ∧ EnvP F ((D.rt z).1 ++ [(D.rt z).2]) (s ++ [some v]) h
  | .exc c m => ∃ s h, r = .exc s c [] h ∧ EnvP F (D.ex m) s h
  | .stk => True
def TS {N S R M : Type} (F : Fr) (ds : List SD) (b : MS) (t : Ct N S R M) (D : Ds N S R M) : Prop := ∀ s h, EnvP F ds s h → PostC F D t (b s h)
/-- part of what is known -/
inductive Sub : List SD → List SD → Prop
  | nil : Sub [] []
  | k {d : SD} {r r' : List SD} (h : Sub r r') : Sub (d :: r) (d :: r')
  | d {d : SD} {r r' : List SD} (h : Sub r r') : Sub (d :: r) (.dead :: r')
  | o {b : Nat} {o : MO} {r r' : List SD} (h : Sub r r') : Sub (.at b o :: r) (.own o :: r')
theorem Sub.refl : ∀ {ds : List SD}, Sub ds ds
  | [] => .nil
  | _ :: _ => .k Sub.refl
theorem Sub.len {a b : List SD} (h : Sub a b) : b.length = a.length := by
  induction h with
  | nil => rfl
  | k _ ih => simp [ih]
  | d _ ih => simp [ih]
  | o _ ih => simp [ih]
theorem Sub.get {a b : List SD} (h : Sub a b) : ∀ (i : Nat) (d' : SD), b[i]? = some d' → ∃ d : SD, a[i]? = some d ∧ (d' = d ∨ d' = .dead ∨ ∃ x o, d = .at x o ∧ d' = .own o) := by
  induction h with
  | nil => intro i d' e; cases i <;> cases e
  | k _ ih =>
    intro i d' e
    cases i with
    | zero => cases e; exact ⟨_, rfl, .inl rfl⟩
    | succ i => exact ih i d' e
  | d _ ih =>
    intro i d' e
    cases i with
    | zero => cases e; exact ⟨_, rfl, .inr (.inl rfl)⟩
    | succ i => exact ih i d' e
  | o _ ih =>
    intro i d' e
    cases i with
    | zero => cases e; exact ⟨_, rfl, .inr (.inr ⟨_, _, rfl, rfl⟩)⟩
    | succ i => exact ih i d' e
open Classical in
theorem EnvP.sub {F : Fr} {a b : List SD} {s : Sl} {h : AH} (u : Sub a b) (w : EnvP F a s h) : EnvP F b s h := by
  obtain ⟨fp, w⟩ := w
  refine ⟨fun i => if b[i]? = some .dead then [] else fp i, ⟨by rw [w.len, u.len], fun i d' e => ?_, fun i hi => ?_, w.hok, ⟨fun i j x h1 h2 => ?_, fun i x h1 => ?_⟩⟩⟩
  · obtain ⟨d, e1, q⟩ := u.get i d' e
    obtain ⟨x, e2, sk⟩ := w.slot i d e1
    refine ⟨x, e2, ?_⟩
    rcases q with rfl | rfl | ⟨b', o, rfl, rfl⟩
    · by_cases z : b[i]? = some .dead
      · rw [e] at z; cases z
        simp only [e, if_true]; rfl
      · simp only [z, if_false]; exact sk
    · simp only [e, if_true]; rfl
    · have z : ¬ b[i]? = some .dead := by rw [e]; intro z; cases z
      simp only [z, if_false]
      obtain ⟨e3, sk⟩ := sk
      exact ⟨b', e3, sk⟩
  · have : b[i]? = none := List.getElem?_eq_none hi
    simp only [this]
    rw [u.len] at hi
    exact w.out i hi
  · split at h1
    · cases h1
    · split at h2
      · cases h2
      · exact w.fok.dj i j x h1 h2
  · split at h1
    · cases h1
    · exact w.fok.fresh i x h1
/-- what is behind is forgotten -/
theorem EnvP.front {F : Fr} {a b : List SD} {s s' : Sl} {h : AH} (hl : s.length = a.length) (w : EnvP F (a ++ b) (s ++ s') h) : EnvP F a s h := by
  obtain ⟨fp, w⟩ := w
  refine ⟨fun i => if i < a.length then fp i else [], ⟨hl, fun i d e => ?_, fun i hi => ?_, w.hok, ⟨fun i j x h1 h2 => ?_, fun i x h1 => ?_⟩⟩⟩
  · have hi := (List.getElem?_eq_some_iff.mp e).1
    obtain ⟨x, e2, sk⟩ := w.slot i d (by rw [List.getElem?_append_left hi]; exact e)
    refine ⟨x, by rw [List.getElem?_append_left (by omega)] at e2; exact e2, ?_⟩
    rw [if_pos hi]; exact sk
  · exact if_neg (by omega)
  · split at h1
    · split at h2
      · exact w.fok.dj i j x h1 h2
      · cases h2
    · cases h1
  · split at h1
    · exact w.fok.fresh i x h1
    · cases h1
theorem EnvP.lastVal {F : Fr} {a : List SD} {s : Sl} {h : AH} {v x : AV} (hl : s.length = a.length) (w : EnvP F (a ++ [.val x]) (s ++ [some v]) h) : v = x := by
  have := w.getVal (i := a.length) (a := x) (by rw [List.getElem?_append_right (Nat.le_refl _), Nat.sub_self]; rfl)
  rw [← hl, List.getElem?_append_right (Nat.le_refl _), Nat.sub_self] at this
  injection this with this
  injection this
/-- a quiet value behind -/
theorem EnvP.addVal {F : Fr} {ds : List SD} {s : Sl} {h : AH} (w : EnvP F ds s h) (a : AV) : EnvP F (ds ++ [.val a]) (s ++ [some a]) h := by
  obtain ⟨fp, w⟩ := w
  refine ⟨fp, ⟨by rw [List.length_append, List.length_append, w.len]; rfl, fun i d e => ?_, fun i hi => w.out i (by rw [List.length_append] at hi; omega), w.hok, w.fok⟩⟩
  rcases Nat.lt_trichotomy i ds.length with hi | hi | hi
  · rw [List.getElem?_append_left hi] at e
    obtain ⟨x, e1, sk⟩ := w.slot i d e
    exact ⟨x, by rw [List.getElem?_append_left (by rw [w.len]; exact hi)]; exact e1, sk⟩
  · subst hi
    rw [List.getElem?_append_right (Nat.le_refl _), Nat.sub_self] at e
    cases e
    refine ⟨some a, by rw [← w.len, List.getElem?_append_right (Nat.le_refl _), Nat.sub_self]; rfl, rfl, w.out _ (Nat.le_refl _)⟩
  · rw [List.getElem?_eq_none (by rw [List.length_append]; simp; omega)] at e; cases e
theorem EnvP.len {F : Fr} {ds : List SD} {s : Sl} {h : AH} (w : EnvP F ds s h) : s.length = ds.length := by
  obtain ⟨fp, w⟩ := w
  exact w.len
/-- the last is moved to slot i -/
theorem EnvP.mvLast {F : Fr} {ds : List SD} {d : SD} {s : Sl} {x : Option AV} {h : AH} (w : EnvP F (ds ++ [d]) (s ++ [x]) h) (hl : s.length = ds.length) {i : Nat} (hi : i < ds.length) : EnvP F (ds.set i d) (s.set i x) h := by
  obtain ⟨fp, w⟩ := w
  have hx : ∀ y, (s ++ [x])[ds.length]? = some y → y = x := fun y e => by
    rw [← hl, List.getElem?_append_right (Nat.le_refl _), Nat.sub_self] at e
    injection e with e; exact e.symm
  obtain ⟨y, e1, sk⟩ := w.slot ds.length d (by rw [List.getElem?_append_right (Nat.le_refl _), Nat.sub_self]; rfl)
  obtain rfl := hx y e1
  refine ⟨fun j => if j = i then fp ds.length else if j < ds.length then fp j else [], ⟨by rw [List.length_set, List.length_set, hl], fun j d' e => ?_, fun j hj => ?_, w.hok, ⟨fun j k a h1 h2 => ?_, fun j a h1 => ?_⟩⟩⟩
  · by_cases hj : j = i
    · subst hj
      rw [List.getElem?_set_self hi] at e
      cases e
      exact ⟨y, by rw [List.getElem?_set_self (by omega)], by rw [if_pos rfl]; exact sk⟩
    · rw [List.getElem?_set_ne (Ne.symm hj)] at e
      have hj2 := (List.getElem?_eq_some_iff.mp e).1
      obtain ⟨z, e2, sk2⟩ := w.slot j d' (by rw [List.getElem?_append_left hj2]; exact e)
      rw [List.getElem?_append_left (by omega)] at e2
      exact ⟨z, by rw [List.getElem?_set_ne (Ne.symm hj)]; exact e2, by rw [if_neg hj, if_pos hj2]; exact sk2⟩
  · rw [List.length_set] at hj
    rw [if_neg (by omega), if_neg (by omega)]
  · skip
    have aux : ∀ j, a ∈ (if j = i then fp ds.length else if j < ds.length then fp j else []) → (j = i ∧ a ∈ fp ds.length) ∨ (j ≠ i ∧ j < ds.length ∧ a ∈ fp j) := fun j h => by
      split at h
      · exact .inl ⟨‹_›, h⟩
      · split at h
        · exact .inr ⟨‹_›, ‹_›, h⟩
        · cases h
    rcases aux j h1 with ⟨a1, b1⟩ | ⟨a1, b1, c1⟩ <;> rcases aux k h2 with ⟨a2, b2⟩ | ⟨a2, b2, c2⟩
    · rw [a1, a2]
    · have := w.fok.dj _ _ _ b1 c2; omega
    · have := w.fok.dj _ _ _ b2 c1; omega
    · exact w.fok.dj _ _ _ c1 c2
  · split at h1
    · exact w.fok.fresh _ a h1
    · split at h1
      · exact w.fok.fresh _ a h1
      · cases h1
section
variable {F : Fr} {ds : List SD} {N N' S R M Y Z α : Type} {D : Ds N S R M} {t : Ct N S R M}
theorem then_skip (r : Ss) : r.then mSkip = r := by cases r <;> rfl
theorem ts_one {b : MS} (h : TS F ds (mSeq b mSkip) t D) : TS F ds b t D := fun s g w => by
  have := h s g w
  rw [ap_seq, then_skip] at this
  exact this
theorem ts_skip {y : N} (u : Sub ds (D.nx y)) : TS F ds mSkip (.nx y) D := fun s g w => ⟨s, g, rfl, w.sub u⟩
theorem ts_let {e : ME} {i : Nat} {rest : MS} {E : α → AV} {x : α} {k : α → Ct N S R M} (p : PE F ds e (E x)) (hi : i < ds.length) (h : ∀ y, TS F (ds.set i (.val (E y))) rest (k y) D) : TS F ds (mSeq (mAsg e (tName i)) rest) (LetC x k) D := fun s g w => by
  rw [ap_seq, ap_asg, p s g w, toS_ok, then_nx]
  exact h x _ _ (w.setVal hi _)
theorem ts_forget {vs : List Nat} {rest : MS} {ds' : List SD} (u : Sub ds ds') (hk : ∀ v ∈ vs, ds'[v]? = some .dead) (h : TS F ds' rest t D) : TS F ds (mSeq (mForget vs) rest) t D := fun s g w => by
  rw [ap_seq, ap_forget, then_nx]
  have w := w.sub u
  have : EnvP F ds' (wipeA s vs) g := by
    clear h
    induction vs with
    | nil => exact w
    | cons v vs ih =>
      have w2 := ih fun x hx => hk x (List.mem_cons_of_mem _ hx)
      have e := hk v List.mem_cons_self
      have := w2.kill (List.getElem?_eq_some_iff.mp e).1
      rw [set_self e] at this
      exact this
  exact h _ _ this
theorem PostC.then {r : Ss} {k : MS} {ta : Ct N S R M} {D' : Ds N' S R M} {kt : N → Ct N' S R M} (h : PostC F { nx := D.nx, lp := D'.lp, rt := D'.rt, ex := D'.ex } ta r) (hk : ∀ y s h, EnvP F (D.nx y) s h → PostC F D' (kt y) (k s h)) : PostC F D' (ta.bind kt) (r.then k) := by
  cases ta with
  | nx y => obtain ⟨s, g, rfl, w⟩ := h; exact hk y s g w
  | bk y => obtain ⟨s, g, rfl, w⟩ := h; exact ⟨s, g, rfl, w⟩
  | ct y => obtain ⟨s, g, rfl, w⟩ := h; exact ⟨s, g, rfl, w⟩
  | rt z => obtain ⟨v, s, g, rfl, w⟩ := h; exact ⟨v, s, g, rfl, w⟩
  | exc c m => obtain ⟨s, g, rfl, w⟩ := h; exact ⟨s, g, rfl, w⟩
  | stk => trivial
theorem ts_seq {a b : MS} {Na : Type} {I : Na → List SD} {ta : Ct Na S R M} {k : Na → Ct N S R M} (ha : TS F ds a ta { nx := I, lp := D.lp, rt := D.rt, ex := D.ex }) (hb : ∀ y, TS F (I y) b (k y) D) : TS F ds (mSeq a b) (ta.bind k) D := fun s g w => by
  rw [ap_seq]
  exact PostC.then (D := { nx := I, lp := D.lp, rt := D.rt, ex := D.ex }) (ha s g w) fun y s h w => hb y s h w
theorem ts_if {c : MT} {A B : MS} {b : Bool} {tA tB : Ct N S R M} (p : PT F ds c b) (ha : b = true → TS F ds A tA D) (hb : b = false → TS F ds B tB D) : TS F ds (mIfS c A B) (if b = true then tA else tB) D := fun s g w => by
  rw [ap_ifS, p s g w, toS_ok]
  cases b with
  | true => exact ha rfl s g w
  | false => exact hb rfl s g w
theorem ts_chk {G : Prop} {b : MS} (h : G → TS F ds b t D) : TS F ds b (chk G t) D := by
  unfold chk
  split
  · exact h ‹_›
  · exact fun _ _ _ => trivial
theorem ts_ret {e : ME} {a : AV} {z : R} {dz : List SD} (p : PE F ds e a) (hz : D.rt z = (dz, .val a)) (u : Sub ds dz) : TS F ds (mRet e) (.rt z) D := fun s g w => by
  rw [ap_ret, p s g w, toS_ok]
  refine ⟨a, s, g, rfl, ?_, ?_⟩
  · rw [hz]; exact (w.sub u).len
  · rw [hz]; exact (w.sub u).addVal a
theorem ts_raise {c : Str} {m : M} (u : Sub ds (D.ex m)) : TS F ds (mRaise c) (.exc c m) D := fun s g w => ⟨s, g, rfl, w.sub u⟩
theorem ts_raiseE {c : Str} {m : M} {a : ME} {v : AV} (p : PE F ds a v) (u : Sub ds (D.ex m)) : TS F ds (mRaiseE c (mCons a mNil)) (.exc c m) D := fun s g w => by
  have e : mRaiseE c (mCons a mNil) s g = .exc s c [] g := by
    show (((a s g).bind _).toS s _) = _
    rw [p s g w]; rfl
  rw [e]
  exact ⟨s, g, rfl, w.sub u⟩
end
end S9
end
section
set_option Elab.async false
set_option linter.all false
set_option maxRecDepth 100000
set_option maxHeartbeats 4000000
namespace S9
open PySem PySem.Spec PyProof.Rows L2 S3
section
variable {F : Fr} {h h' : AH}
def Liv (b : List SD) (i : Nat) : Prop := ∃ d, b[i]? = some d ∧ d ≠ .dead
open Classical in
theorem EnvP.reidx {a b : List SD} {s s' : Sl} (w : EnvP F a s h) (π : Nat → Nat) (hl : s'.length = b.length) (inj : ∀ i j, Liv b i → Liv b j → π i = π j → i = j)
    (H : ∀ (i : Nat) (d' : SD), b[i]? = some d' → d' = .dead ∨ ∃ d : SD, a[π i]? = some d ∧ s'[i]? = s[π i]? ∧ (d' = d ∨ (∃ x o, d' = .own o ∧ d = .at x o) ∨ (∃ x o, d' = .at x o ∧ d = .own o ∧ s'[i]? = some (some (.ref x))))) : EnvP F b s' h := by
  obtain ⟨fp, w⟩ := w
  have liv : ∀ i x, x ∈ (if Liv b i then fp (π i) else []) → Liv b i ∧ x ∈ fp (π i) := fun i x hx => by
    split at hx
    · exact ⟨‹_›, hx⟩
    · cases hx
  refine ⟨fun i => if Liv b i then fp (π i) else [], ⟨hl, fun i d' e => ?_, fun i hi => ?_, w.hok, ⟨fun i j x h1 h2 => ?_, fun i x h1 => ?_⟩⟩⟩
  · rcases H i d' e with rfl | ⟨d, e1, e2, q⟩
    · have hi := (List.getElem?_eq_some_iff.mp e).1
      refine ⟨s'[i]'(by omega), List.getElem?_eq_getElem _, ?_⟩
      rw [if_neg]
      · rfl
      · rintro ⟨d, e3, n⟩
        rw [e] at e3; cases e3; exact n rfl
    · obtain ⟨x, e3, sk⟩ := w.slot _ d e1
      refine ⟨x, by rw [e2]; exact e3, ?_⟩
      by_cases z : d' = .dead
      · subst z
        rw [if_neg]
        · rfl
        · rintro ⟨d, e3, n⟩
          rw [e] at e3; cases e3; exact n rfl
      · rw [if_pos ⟨d', e, z⟩]
        rcases q with rfl | ⟨y, o, rfl, rfl⟩ | ⟨y, o, rfl, rfl, e4⟩
        · exact sk
        · exact ⟨y, sk.1, sk.2⟩
        · obtain ⟨b', rfl, sk⟩ := sk
          rw [e2, e3] at e4
          injection e4 with e4
          refine ⟨e4, ?_⟩
          injection e4 with e4
          injection e4 with e4
          subst e4
          exact sk
  · rw [if_neg]
    rintro ⟨d, e3, n⟩
    have := (List.getElem?_eq_some_iff.mp e3).1
    omega
  · obtain ⟨l1, m1⟩ := liv i x h1
    obtain ⟨l2, m2⟩ := liv j x h2
    exact inj i j l1 l2 (w.fok.dj _ _ _ m1 m2)
  · obtain ⟨l1, m1⟩ := liv i x h1
    exact w.fok.fresh _ _ m1
theorem get_app {α : Type} {a b : List α} {i : Nat} {d : α} (e : (a ++ b)[i]? = some d) : (i < a.length ∧ a[i]? = some d) ∨ (a.length ≤ i ∧ b[i - a.length]? = some d) := by
  rcases Nat.lt_or_ge i a.length with hi | hi
  · rw [List.getElem?_append_left hi] at e; exact .inl ⟨hi, e⟩
  · rw [List.getElem?_append_right hi] at e; exact .inr ⟨hi, e⟩
theorem app_l {α : Type} {a b : List α} {i : Nat} (hi : i < a.length) : (a ++ b)[i]? = a[i]? := List.getElem?_append_left hi
theorem app_r {α : Type} {a b : List α} {i : Nat} : (a ++ b)[a.length + i]? = b[i]? := by rw [List.getElem?_append_right (by omega)]; congr 1; omega
theorem app_r' {α : Type} {a b : List α} {n i : Nat} (e : a.length = n) : (a ++ b)[n + i]? = b[i]? := by subst e; exact app_r
/-- one of what stands behind is dropped -/
theorem EnvP.drop1 {dk ex : List SD} {d : SD} {s sx : Sl} {x : Option AV} (hl : s.length = dk.length) (w : EnvP F (dk ++ (d :: ex)) (s ++ (x :: sx)) h) : EnvP F (dk ++ ex) (s ++ sx) h := by
  have hlen := w.len
  simp only [List.length_append, List.length_cons] at hlen
  refine w.reidx (fun i => if i < dk.length then i else i + 1) (by simp only [List.length_append]; omega) (fun i j _ _ e => ?_) fun i d' e => .inr ⟨d', ?_, ?_, .inl rfl⟩
  · split at e <;> split at e <;> omega
  · rcases get_app e with ⟨hi, e⟩ | ⟨hi, e⟩
    · simp only [hi, if_true]; rw [app_l hi]; exact e
    · simp only [show ¬ i < dk.length by omega, if_false]
      rw [show i + 1 = dk.length + (i - dk.length + 1) by omega, app_r]; exact e
  · rcases get_app e with ⟨hi, e⟩ | ⟨hi, e⟩
    · simp only [hi, if_true]; rw [app_l (by omega), app_l (by omega)]
    · simp only [show ¬ i < dk.length by omega, if_false]
      rw [show i + 1 = s.length + (i - s.length + 1) by omega, app_r, show i = s.length + (i - s.length) by omega, app_r]
      rw [show s.length + (i - s.length) - s.length + 1 = (i - s.length) + 1 by omega]; rfl
/-- a thing is moved to the end -/
theorem EnvP.mvOut1 {ds ex : List SD} {d : SD} {o : MO} {s sx : Sl} {i : Nat} (hl : s.length = ds.length) (w : EnvP F (ds ++ ex) (s ++ sx) h) (e : ds[i]? = some d) (ho : d.isO o) : ∃ b, s[i]? = some (some (.ref b)) ∧ (∀ b' o', d = .at b' o' → b' = b) ∧ EnvP F (ds.set i .dead ++ (ex ++ [.own o])) (s ++ (sx ++ [some (.ref b)])) h := by
  have hi := (List.getElem?_eq_some_iff.mp e).1
  have hlen := w.len
  simp only [List.length_append] at hlen
  have eb : ∃ b, s[i]? = some (some (.ref b)) ∧ (∀ b' o', d = .at b' o' → b' = b) := by
    obtain ⟨fp, w⟩ := w
    obtain ⟨b, e1, sk, _⟩ := w.getO (i := i) (by rw [app_l hi]; exact e) ho
    rw [app_l (by omega)] at e1
    refine ⟨b, e1, fun b' o' z => ?_⟩
    obtain ⟨x, e2, sk⟩ := w.slot i d (by rw [app_l hi]; exact e)
    rw [app_l (by omega), e1] at e2
    subst z
    obtain ⟨e3, _⟩ := sk
    rw [e3] at e2
    injection e2 with e2; injection e2 with e2; injection e2 with e2; exact e2.symm
  obtain ⟨b, e1, e2⟩ := eb
  refine ⟨b, e1, e2, w.reidx (fun j => if j = ds.length + ex.length then i else j) (by simp only [List.length_append, List.length_set, List.length_singleton]; omega) (fun j k l1 l2 e => ?_) fun j d' ej => ?_⟩
  · have nd : ¬ Liv (ds.set i .dead ++ (ex ++ [.own o])) i := by
      rintro ⟨d2, e3, n⟩
      rw [app_l (by rw [List.length_set]; exact hi), List.getElem?_set_self hi] at e3
      cases e3; exact n rfl
    split at e <;> split at e
    · omega
    · subst e; exact absurd l2 nd
    · subst e; exact absurd l1 nd
    · exact e
  · rcases get_app ej with ⟨hj, ej⟩ | ⟨hj, ej⟩
    · rw [List.length_set] at hj
      by_cases z : j = i
      · subst z
        rw [List.getElem?_set_self hi] at ej
        cases ej; exact .inl rfl
      · rw [List.getElem?_set_ne (Ne.symm z)] at ej
        refine .inr ⟨d', ?_, ?_, .inl rfl⟩
        · simp only [show j ≠ ds.length + ex.length by omega, if_false]; rw [app_l hj]; exact ej
        · simp only [show j ≠ ds.length + ex.length by omega, if_false]; rw [app_l (by omega), app_l (by omega)]
    · rw [List.length_set] at hj ej
      rcases get_app ej with ⟨hk, ek⟩ | ⟨hk, ek⟩
      · refine .inr ⟨d', ?_, ?_, .inl rfl⟩
        · simp only [show j ≠ ds.length + ex.length by omega, if_false]
          rw [show j = ds.length + (j - ds.length) by omega, app_r]; exact ek
        · simp only [show j ≠ ds.length + ex.length by omega, if_false]
          rw [show j = s.length + (j - s.length) by omega, app_r, app_r, app_l (by omega)]
      · have : j - ds.length - ex.length = 0 := by
          have := (List.getElem?_eq_some_iff.mp ek).1
          simp only [List.length_singleton] at this; omega
        rw [this] at ek
        cases ek
        have ej2 : j = ds.length + ex.length := by omega
        refine .inr ⟨d, ?_, ?_, ?_⟩
        · simp only [ej2, if_true]; rw [app_l hi]; exact e
        · simp only [ej2, if_true]
          have er : (s ++ sx)[i]? = s[i]? := app_l (by omega)
          rw [er, e1, ← hl, app_r, List.getElem?_append_right (by omega), show ex.length - sx.length = 0 by omega]; rfl
        · rcases ho with rfl | ⟨y, rfl⟩
          · exact .inl rfl
          · exact .inr (.inl ⟨y, o, rfl, rfl⟩)
/-- .. and back -/
theorem EnvP.mvBack1 {dk ex : List SD} {d0 : SD} {o : MO} {s sx : Sl} {i b : Nat} (hl : s.length = dk.length) (w : EnvP F (dk ++ (.own o :: ex)) (s ++ (some (.ref b) :: sx)) h) (hi : i < dk.length) (e1 : s[i]? = some (some (.ref b))) (hd : ∀ b' o', d0 = .at b' o' → b' = b) : EnvP F (dk.set i (d0.re o) ++ ex) (s ++ sx) h := by
  have hlen := w.len
  simp only [List.length_append, List.length_cons] at hlen
  have old : ∀ j : Nat, dk.length ≤ j → (dk ++ (SD.own o :: ex))[j + 1]? = ex[j - dk.length]? := fun j hj => by
    rw [show j + 1 = dk.length + (j - dk.length + 1) by omega, app_r]; rfl
  refine w.reidx (fun j => if j = i then dk.length else if j < dk.length then j else j + 1) (by simp only [List.length_append, List.length_set]; omega) (fun j k _ _ e => ?_) fun j d' ej => .inr ?_
  · have aux : ∀ j, (j = i ∧ (if j = i then dk.length else if j < dk.length then j else j + 1) = dk.length) ∨ (j ≠ i ∧ j < dk.length ∧ (if j = i then dk.length else if j < dk.length then j else j + 1) = j) ∨ (j ≠ i ∧ dk.length ≤ j ∧ (if j = i then dk.length else if j < dk.length then j else j + 1) = j + 1) := fun j => by
      by_cases c1 : j = i
      · exact .inl ⟨c1, by rw [if_pos c1]⟩
      · by_cases c2 : j < dk.length
        · exact .inr (.inl ⟨c1, c2, by rw [if_neg c1, if_pos c2]⟩)
        · exact .inr (.inr ⟨c1, by omega, by rw [if_neg c1, if_neg c2]⟩)
    have e : (if j = i then dk.length else if j < dk.length then j else j + 1) = (if k = i then dk.length else if k < dk.length then k else k + 1) := e
    rcases aux j with ⟨a1, a2⟩ | ⟨a1, b1, a2⟩ | ⟨a1, b1, a2⟩ <;> rcases aux k with ⟨c1, c2⟩ | ⟨c1, d1, c2⟩ | ⟨c1, d1, c2⟩ <;> rw [a2, c2] at e <;> omega
  · rcases get_app ej with ⟨hj, ej⟩ | ⟨hj, ej⟩
    · rw [List.length_set] at hj
      by_cases z : j = i
      · subst z
        rw [List.getElem?_set_self hi] at ej
        cases ej
        refine ⟨.own o, ?_, ?_, ?_⟩
        · simp only [if_true]
          have := app_r (a := dk) (b := SD.own o :: ex) (i := 0)
          exact this
        · simp only [if_true]
          have := app_r (a := s) (b := some (AV.ref b) :: sx) (i := 0)
          rw [hl] at this
          rw [app_l (by omega), e1]
          exact this.symm
        · cases d0 with
          | «at» b' o' =>
            obtain rfl := hd b' o' rfl
            exact .inr (.inr ⟨b', o, rfl, rfl, by rw [app_l (by omega), e1]⟩)
          | _ => exact .inl rfl
      · rw [List.getElem?_set_ne (Ne.symm z)] at ej
        refine ⟨d', ?_, ?_, .inl rfl⟩
        · simp only [z, hj, if_true, if_false]; rw [app_l hj]; exact ej
        · simp only [z, hj, if_true, if_false]; rw [app_l (by omega), app_l (by omega)]
    · rw [List.length_set] at hj ej
      refine ⟨d', ?_, ?_, .inl rfl⟩
      · simp only [show j ≠ i by omega, show ¬ j < dk.length by omega, if_false]
        rw [old j hj]; exact ej
      · simp only [show j ≠ i by omega, show ¬ j < dk.length by omega, if_false]
        rw [show j + 1 = s.length + (j - s.length + 1) by omega, app_r]
        have : (s ++ sx)[j]? = sx[j - s.length]? := by rw [List.getElem?_append_right (by omega)]
        rw [this]; rfl
/-- the frame -/
theorem EnvP.frame {dk ad : List SD} {s sv : Sl} (hl : s.length = dk.length) (w : EnvP F (dk ++ ad) (s ++ sv) h) : ∃ F1, EnvP F1 ad sv h ∧ ∀ ad' sv' h', EnvP F1 ad' sv' h' → EnvP F (dk ++ ad') (s ++ sv') h' := by
  obtain ⟨fp, w⟩ := w
  have hlen := w.len
  simp only [List.length_append] at hlen
  refine ⟨⟨h, fun a => ∃ j, dk.length ≤ j ∧ a ∈ fp j⟩, ⟨fun j => fp (dk.length + j), ⟨by omega, fun i d e => ?_, fun i hi => w.out _ (by rw [List.length_append]; omega), ⟨w.hok.cl, Nat.le_refl _, fun _ _ _ => rfl⟩, ⟨fun i j a h1 h2 => ?_, fun i a h1 => .inl ⟨_, by omega, h1⟩⟩⟩⟩, fun ad' sv' h' w2 => ?_⟩
  · obtain ⟨x, e1, sk⟩ := w.slot (dk.length + i) d (by rw [app_r]; exact e)
    rw [app_r' hl] at e1
    exact ⟨x, e1, sk⟩
  · have := w.fok.dj _ _ _ h1 h2; omega
  · obtain ⟨fp2, w2⟩ := w2
    have hlen2 := w2.len
    have keep : ∀ i, i < dk.length → ∀ a ∈ fp i, h'[a]? = h[a]? := fun i hi a ha => w2.hok.fr a (w.lt ha) fun ⟨j, hj, z⟩ => by
      have := w.fok.dj _ _ _ ha z; omega
    refine ⟨fun i => if i < dk.length then fp i else fp2 (i - dk.length), ⟨by rw [List.length_append, List.length_append]; omega, fun i d e => ?_, fun i hi => ?_, ⟨w2.hok.cl, Nat.le_trans w.hok.le w2.hok.le, fun i hi n => ?_⟩, ⟨fun i j a h1 h2 => ?_, fun i a h1 => ?_⟩⟩⟩
    · rcases get_app e with ⟨hi, e⟩ | ⟨hi, e⟩
      · obtain ⟨x, e1, sk⟩ := w.slot i d (by rw [app_l hi]; exact e)
        rw [app_l (by omega)] at e1
        refine ⟨x, by rw [app_l (by omega)]; exact e1, ?_⟩
        simp only [hi, if_true]; exact sk.frame (keep i hi)
      · obtain ⟨x, e1, sk⟩ := w2.slot _ d e
        refine ⟨x, by rw [List.getElem?_append_right (by omega), hl]; exact e1, ?_⟩
        simp only [show ¬ i < dk.length by omega, if_false]; exact sk
    · rw [List.length_append] at hi
      simp only [show ¬ i < dk.length by omega, if_false]; exact w2.out _ (by omega)
    · rw [w2.hok.fr i (Nat.lt_of_lt_of_le hi w.hok.le) fun ⟨j, _, z⟩ => ?_, w.hok.fr i hi n]
      rcases w.fok.fresh _ _ z with z | z
      · exact n z
      · omega
    · have aux : ∀ i, a ∈ (if i < dk.length then fp i else fp2 (i - dk.length)) → (i < dk.length ∧ a ∈ fp i) ∨ (dk.length ≤ i ∧ a ∈ fp2 (i - dk.length)) := fun i z => by
        split at z
        · exact .inl ⟨‹_›, z⟩
        · exact .inr ⟨by omega, z⟩
      have cross : ∀ i j, i < dk.length → a ∈ fp i → a ∈ fp2 j → False := fun i j hi h1 h2 => by
        rcases w2.fok.fresh _ _ h2 with ⟨k, hk, z⟩ | z
        · have := w.fok.dj _ _ _ h1 z; omega
        · have z : h.length ≤ a := z
          have := w.lt h1; omega
      rcases aux i h1 with ⟨a1, b1⟩ | ⟨a1, b1⟩ <;> rcases aux j h2 with ⟨a2, b2⟩ | ⟨a2, b2⟩
      · exact w.fok.dj _ _ _ b1 b2
      · exact (cross _ _ a1 b1 b2).elim
      · exact (cross _ _ a2 b2 b1).elim
      · have := w2.fok.dj _ _ _ b1 b2; omega
    · split at h1
      · exact w.fok.fresh _ _ h1
      · rcases w2.fok.fresh _ _ h1 with ⟨k, _, z⟩ | z
        · exact w.fok.fresh _ _ z
        · have z : h.length ≤ a := z
          have := w.hok.le; exact .inr (by omega)
end
def FOk {M Y : Type} (f : Fn) (ad : List SD) (te : ER M Y) (res : Y → SD) (dy : Y → List SD) (dm : M → List SD) : Prop := ∀ F vs h, EnvP F ad (vs.map some) h → match (generalizing := false) te with
  | .ok y => ∃ v h', f vs h = .ok v h' ∧ (dy y).length = ad.length ∧ EnvP F (dy y ++ [res y]) (vs.map some ++ [some v]) h'
  | .exc c m => ∃ h', f vs h = .exc c [] h' ∧ (dm m).length = ad.length ∧ EnvP F (dm m) (vs.map some) h'
  | .stk => True
inductive Ar where
  | v (a : AV) | o (i : Nat)
def ArOk (s : Sl) : List Ar → List AV → Prop
  | [], vs => vs = []
  | .v a :: as, vs => ∃ r, vs = a :: r ∧ ArOk s as r
  | .o i :: as, vs => ∃ b r, vs = .ref b :: r ∧ s[i]? = some (some (.ref b)) ∧ ArOk s as r
def PAr (F : Fr) (ds : List SD) (m : MA) (as : List Ar) : Prop := ∀ s h, EnvP F ds s h → ∃ vs, m s h = .ok vs h ∧ ArOk s as vs
/-- what is given away, what is given -/
inductive Gv : List SD → List Ar → List SD → List SD → Prop
  | nil {ds : List SD} : Gv ds [] ds []
  | v {ds dk ad : List SD} {a : AV} {as : List Ar} (h : Gv ds as dk ad) : Gv ds (.v a :: as) dk (.val a :: ad)
  | o {ds dk ad : List SD} {i : Nat} {d : SD} {o : MO} {as : List Ar} (e : ds[i]? = some d) (ho : d.isO o) (h : Gv (ds.set i .dead) as dk ad) : Gv ds (.o i :: as) dk (.own o :: ad)
/-- what comes back -/
inductive Bk : List SD → List SD → List Ar → List SD → List SD → Prop
  | nil {d0 dk : List SD} : Bk d0 dk [] [] dk
  | v {d0 dk r : List SD} {a : AV} {d : SD} {as : List Ar} {dy : List SD} (h : Bk d0 dk as dy r) : Bk d0 dk (.v a :: as) (d :: dy) r
  | o {d0 dk r : List SD} {i : Nat} {d : SD} {o : MO} {as : List Ar} {dy : List SD} (e : d0[i]? = some d) (h : Bk d0 (dk.set i (d.re o)) as dy r) : Bk d0 dk (.o i :: as) (.own o :: dy) r
  | x {d0 dk r : List SD} {i : Nat} {d : SD} {as : List Ar} {dy : List SD} (h : Bk d0 dk as dy r) : Bk d0 dk (.o i :: as) (d :: dy) r
section
variable {F : Fr} {s : Sl} {h : AH}
theorem Gv.len {ds dk ad : List SD} {as : List Ar} (g : Gv ds as dk ad) : dk.length = ds.length := by
  induction g with
  | nil => rfl
  | v _ ih => exact ih
  | o _ _ _ ih => rw [ih, List.length_set]
theorem Gv.go {ds dk ad : List SD} {as : List Ar} (g : Gv ds as dk ad) : ∀ {ex : List SD} {sx : Sl} {vs : List AV}, s.length = ds.length → EnvP F (ds ++ ex) (s ++ sx) h → ArOk s as vs → EnvP F (dk ++ (ex ++ ad)) (s ++ (sx ++ vs.map some)) h := by
  induction g with
  | nil =>
    intro ex sx vs hl w a
    have a : vs = [] := a
    subst a
    simpa using w
  | v g ih =>
    intro ex sx vs hl w a
    obtain ⟨r, rfl, a⟩ := a
    have w2 := w.addVal ‹AV›
    rw [List.append_assoc, List.append_assoc] at w2
    have := ih hl w2 a
    simpa using this
  | o e ho g ih =>
    intro ex sx vs hl w a
    obtain ⟨b, r, rfl, e1, a⟩ := a
    obtain ⟨b2, e2, _, w2⟩ := w.mvOut1 hl e ho
    rw [e1] at e2; cases e2
    have := ih (by rw [List.length_set]; exact hl) w2 a
    simpa using this
theorem Bk.len {d0 dk r dy : List SD} {as : List Ar} (g : Bk d0 dk as dy r) : r.length = dk.length := by
  induction g with
  | nil => rfl
  | v _ ih => exact ih
  | o _ _ ih => rw [ih, List.length_set]
  | x _ ih => exact ih
/-- addresses of given things are as they were told -/
def AtOk (d0 : List SD) (s : Sl) : Prop := ∀ (i : Nat) (b : Nat) (o : MO), d0[i]? = some (.at b o) → s[i]? = some (some (.ref b))
theorem EnvP.atOk {ds : List SD} (w : EnvP F ds s h) : AtOk ds s := fun i b o e => by
  obtain ⟨fp, w⟩ := w
  obtain ⟨x, e1, sk, _⟩ := w.slot i _ e
  rw [e1, sk]
theorem Bk.go {d0 dk r dy : List SD} {as : List Ar} (g : Bk d0 dk as dy r) : ∀ {ex : List SD} {sx : Sl} {vs : List AV}, s.length = dk.length → d0.length = dk.length → AtOk d0 s → ArOk s as vs → EnvP F (dk ++ (dy ++ ex)) (s ++ (vs.map some ++ sx)) h → EnvP F (r ++ ex) (s ++ sx) h := by
  induction g with
  | nil =>
    intro ex sx vs hl hd ha a w
    have a : vs = [] := a
    subst a
    simpa using w
  | v g ih =>
    intro ex sx vs hl hd ha a w
    obtain ⟨r, rfl, a⟩ := a
    exact ih hl hd ha a (EnvP.drop1 hl w)
  | o e g ih =>
    intro ex sx vs hl hd ha a w
    obtain ⟨b, r, rfl, e1, a⟩ := a
    have hi := (List.getElem?_eq_some_iff.mp e).1
    refine ih (by rw [List.length_set]; exact hl) (by rw [List.length_set]; exact hd) ha a (EnvP.mvBack1 hl w (by omega) e1 fun b' o' z => ?_)
    subst z
    have := ha _ _ _ e
    rw [e1] at this
    injection this with this; injection this with this; injection this with this; exact this.symm
  | x g ih =>
    intro ex sx vs hl hd ha a w
    obtain ⟨b, r, rfl, _, a⟩ := a
    exact ih hl hd ha a (EnvP.drop1 hl w)
theorem par_nil {ds : List SD} : PAr F ds mNil [] := fun s h w => ⟨[], rfl, rfl⟩
theorem par_v {ds : List SD} {e : ME} {a : AV} {m : MA} {as : List Ar} (p : PE F ds e a) (q : PAr F ds m as) : PAr F ds (mCons e m) (.v a :: as) := fun s h w => by
  obtain ⟨vs, e1, a1⟩ := q s h w
  refine ⟨a :: vs, ?_, vs, rfl, a1⟩
  show (e s h).bind _ = _
  rw [p s h w, bind_ok, e1]; rfl
theorem par_o {ds : List SD} {i : Nat} {d : SD} {o : MO} {m : MA} {as : List Ar} (e : ds[i]? = some d) (ho : d.isO o) (q : PAr F ds m as) : PAr F ds (mCons (mVar i) m) (.o i :: as) := fun s h w => by
  obtain ⟨vs, e1, a1⟩ := q s h w
  obtain ⟨fp, w⟩ := w
  obtain ⟨b, e2, _, _⟩ := w.getO e ho
  refine ⟨.ref b :: vs, ?_, b, vs, rfl, e2, a1⟩
  show (mVar i s h).bind _ = _
  have : mVar i s h = .ok (.ref b) h := by unfold mVar; rw [e2]
  rw [this, bind_ok, e1]; rfl
end
section
variable {M M' Y Y' Z : Type} {F : Fr} {ds : List SD}
def XE (F : Fr) (ds : List SD) (e : ME) (te : ER M Y) (dy : Y → List SD) (r : Y → SD) (dm : M → List SD) (K : Y → Prop) : Prop := ∀ s h, EnvP F ds s h → match (generalizing := false) te with
  | .ok y => K y ∧ ∃ v h', e s h = .ok v h' ∧ s.length = (dy y).length ∧ EnvP F (dy y ++ [r y]) (s ++ [some v]) h'
  | .exc c m => ∃ h', e s h = .exc c [] h' ∧ EnvP F (dm m) s h'
  | .stk => True
def XT (F : Fr) (ds : List SD) (e : MT) (te : ER M Y) (dy : Y → List SD) (r : Y → Bool) (dm : M → List SD) (K : Y → Prop) : Prop := ∀ s h, EnvP F ds s h → match (generalizing := false) te with
  | .ok y => K y ∧ ∃ h', e s h = .ok (r y) h' ∧ EnvP F (dy y) s h'
  | .exc c m => ∃ h', e s h = .exc c [] h' ∧ EnvP F (dm m) s h'
  | .stk => True
abbrev yes {Y : Type} : Y → Prop := fun _ => True
theorem fok_run {f : Fn} {ad dk : List SD} {te : ER M Y} {res : Y → SD} {dya : Y → List SD} {dma : M → List SD} {as : List Ar} {vs : List AV} {s : Sl} {h : AH} (fo : FOk f ad te res dya dma) (g : Gv ds as dk ad) (w : EnvP F ds s h) (a : ArOk s as vs) : match (generalizing := false) te with
  | .ok y => ∃ v h', f vs h = .ok v h' ∧ ∀ r, Bk ds dk as (dya y) r → s.length = r.length ∧ EnvP F (r ++ [res y]) (s ++ [some v]) h'
  | .exc c m => ∃ h', f vs h = .exc c [] h' ∧ ∀ r, Bk ds dk as (dma m) r → EnvP F r s h'
  | .stk => True := by
  have hl := w.len
  have w0 : EnvP F (ds ++ []) (s ++ []) h := by simpa using w
  have w1 := g.go hl w0 a
  simp only [List.nil_append] at w1
  have hk := g.len
  obtain ⟨F1, wa, back⟩ := EnvP.frame (by omega) w1
  have := fo F1 vs h wa
  cases te with
  | stk => trivial
  | ok y =>
    obtain ⟨v, h', e, _, w2⟩ := this
    refine ⟨v, h', e, fun r b => ?_⟩
    have w3 := back _ _ _ w2
    refine ⟨by rw [b.len]; omega, b.go (by omega) (by omega) w.atOk a w3⟩
  | exc c m =>
    obtain ⟨h', e, _, w2⟩ := this
    refine ⟨h', e, fun r b => ?_⟩
    have w3 := back _ _ _ w2
    have := b.go (ex := []) (sx := []) (by omega) (by omega) w.atOk a (by simpa using w3)
    simpa using this
theorem xe_call {f : Fn} {m : MA} {ad dk : List SD} {te : ER M Y} {res : Y → SD} {dya : Y → List SD} {dma : M → List SD} {as : List Ar} {dy : Y → List SD} {dm : M' → List SD} {mx : M → M'} (pa : PAr F ds m as) (g : Gv ds as dk ad) (fo : FOk f ad te res dya dma) (b1 : ∀ y, Bk ds dk as (dya y) (dy y)) (b2 : ∀ m, ∃ r, Bk ds dk as (dma m) r ∧ Sub r (dm (mx m))) : XE F ds (mCall f m) (te.mx mx) dy res dm yes := fun s h w => by
  obtain ⟨vs, e1, a⟩ := pa s h w
  have := fok_run fo g w a
  have ec : mCall f m s h = f vs h := by rw [ap_call, e1, bind_ok]
  cases te with
  | stk => trivial
  | ok y =>
    obtain ⟨v, h', e, q⟩ := this
    obtain ⟨q1, q2⟩ := q _ (b1 y)
    exact ⟨trivial, v, h', by rw [ec, e], q1, q2⟩
  | exc c m =>
    obtain ⟨h', e, q⟩ := this
    obtain ⟨r, b, u⟩ := b2 m
    exact ⟨h', by rw [ec, e], (q r b).sub u⟩
/-- a method of an own instance -/
theorem xe_meth {c mn : Str} {f : Fn} {i : Nat} {m : MA} {ad dk : List SD} {d : SD} {fs : List (Str × FV)} {te : ER M Y} {res : Y → SD} {dya : Y → List SD} {dma : M → List SD} {as : List Ar} {dy : Y → List SD} {dm : M' → List SD} {mx : M → M'} (e : ds[i]? = some d) (ho : d.isO (.ins c fs)) (en : fs.lookup mn = none) (pa : PAr F ds m as) (g : Gv ds (.o i :: as) dk ad) (fo : FOk f ad te res dya dma) (b1 : ∀ y, Bk ds dk (.o i :: as) (dya y) (dy y)) (b2 : ∀ m, ∃ r, Bk ds dk (.o i :: as) (dma m) r ∧ Sub r (dm (mx m))) : XE F ds (mMeth c mn f (mVar i) m) (te.mx mx) dy res dm yes := fun s h w => by
  obtain ⟨vs, e1, a⟩ := pa s h w
  have key : ∃ b, s[i]? = some (some (.ref b)) ∧ mMeth c mn f (mVar i) m s h = f (.ref b :: vs) h := by
    obtain ⟨fp, w'⟩ := w
    obtain ⟨b, e2, ⟨avs, A', e3, wf, _⟩, _⟩ := w'.getO e ho
    refine ⟨b, e2, ?_⟩
    have ev : mVar i s h = .ok (.ref b) h := by unfold mVar; rw [e2]
    have el : avs.lookup mn = none := by
      clear ho e3 g fo
      revert wf
      generalize A' = A
      intro wf
      induction fs generalizing avs A with
      | nil => obtain ⟨rfl, _⟩ := wf; rfl
      | cons p r ih =>
        obtain ⟨f', x⟩ := p
        rw [List.lookup_cons] at en
        cases k : mn == f' with
        | true => rw [k] at en; cases en
        | false =>
          rw [k] at en
          cases x with
          | val a =>
            obtain ⟨r', rfl, _, wf⟩ := wf
            rw [List.lookup_cons, k]
            exact ih en _ _ wf
          | own o =>
            obtain ⟨b', r', A2, rfl, _, _, _, wf⟩ := wf
            rw [List.lookup_cons, k]
            exact ih en _ _ wf
          | oat b' o =>
            obtain ⟨r', A2, rfl, _, _, _, wf⟩ := wf
            rw [List.lookup_cons, k]
            exact ih en _ _ wf
    rw [ap_meth, ev, bind_ok, vIns_ref e3]
    simp only [el, Option.isNone_none, if_true]
    rw [e1, bind_ok]
  obtain ⟨b, e2, ec⟩ := key
  have := fok_run (vs := .ref b :: vs) fo g w ⟨b, vs, rfl, e2, a⟩
  cases te with
  | stk => trivial
  | ok y =>
    obtain ⟨v, h', e, q⟩ := this
    obtain ⟨q1, q2⟩ := q _ (b1 y)
    exact ⟨trivial, v, h', by rw [ec, e], q1, q2⟩
  | exc c m =>
    obtain ⟨h', e, q⟩ := this
    obtain ⟨r, b, u⟩ := b2 m
    exact ⟨h', by rw [ec, e], (q r b).sub u⟩
/-- .. of a frozen one -/
theorem xe_methF {c mn : Str} {f : Fn} {o : ME} {m : MA} {ad dk : List SD} {fs : List (Str × AV)} {te : ER M Y} {res : Y → SD} {dya : Y → List SD} {dma : M → List SD} {as : List Ar} {dy : Y → List SD} {dm : M' → List SD} {mx : M → M'} (po : PE F ds o (.ins c fs)) (en : fs.lookup mn = none) (pa : PAr F ds m as) (g : Gv ds (.v (.ins c fs) :: as) dk ad) (fo : FOk f ad te res dya dma) (b1 : ∀ y, Bk ds dk (.v (.ins c fs) :: as) (dya y) (dy y)) (b2 : ∀ m, ∃ r, Bk ds dk (.v (.ins c fs) :: as) (dma m) r ∧ Sub r (dm (mx m))) : XE F ds (mMeth c mn f o m) (te.mx mx) dy res dm yes := fun s h w => by
  obtain ⟨vs, e1, a⟩ := pa s h w
  have ec : mMeth c mn f o m s h = f (.ins c fs :: vs) h := by
    rw [ap_meth, po s h w, bind_ok]
    have : vIns c h (.ins c fs) = some fs := if_pos rfl
    simp only [this, en, Option.isNone_none, if_true]
    rw [e1, bind_ok]
  have := fok_run (vs := .ins c fs :: vs) fo g w ⟨vs, rfl, a⟩
  cases te with
  | stk => trivial
  | ok y =>
    obtain ⟨v, h', e, q⟩ := this
    obtain ⟨q1, q2⟩ := q _ (b1 y)
    exact ⟨trivial, v, h', by rw [ec, e], q1, q2⟩
  | exc c m =>
    obtain ⟨h', e, q⟩ := this
    obtain ⟨r, b, u⟩ := b2 m
    exact ⟨h', by rw [ec, e], (q r b).sub u⟩
end
end S9
end
section
set_option Elab.async false
set_option linter.all false
set_option maxRecDepth 100000
set_option maxHeartbeats 4000000
namespace S9
open PySem PySem.Spec PyProof.Rows L2 S3
section
variable {M M' Y Y' Z N S R α : Type} {F : Fr} {ds : List SD} {dm : M → List SD}
theorem EnvP.back1 {d : SD} {s : Sl} {x : Option AV} {h : AH} (hl : s.length = ds.length) (w : EnvP F (ds ++ [d]) (s ++ [x]) h) : EnvP F ds s h := w.front hl
theorem xe_val {e : ME} {te : ER M Y} {dy : Y → List SD} {a : Y → AV} {K : Y → Prop} (p : XE F ds e te dy (fun y => .val (a y)) dm K) {s : Sl} {h : AH} (w : EnvP F ds s h) : match (generalizing := false) te with
  | .ok y => K y ∧ ∃ h', e s h = .ok (a y) h' ∧ EnvP F (dy y) s h'
  | .exc c m => ∃ h', e s h = .exc c [] h' ∧ EnvP F (dm m) s h'
  | .stk => True := by
  have := p s h w
  cases te with
  | stk => trivial
  | exc c m => exact this
  | ok y =>
    obtain ⟨k, v, h', e1, hl, w2⟩ := this
    obtain rfl := w2.lastVal hl
    exact ⟨k, h', e1, w2.back1 hl⟩
theorem xe_of {e : ME} {te : ER M Y} {dy : Y → List SD} {a : Y → AV} {K : Y → Prop} (p : ∀ s h, EnvP F ds s h → match (generalizing := false) te with
  | .ok y => K y ∧ ∃ h', e s h = .ok (a y) h' ∧ EnvP F (dy y) s h'
  | .exc c m => ∃ h', e s h = .exc c [] h' ∧ EnvP F (dm m) s h'
  | .stk => True) : XE F ds e te dy (fun y => .val (a y)) dm K := fun s h w => by
  have := p s h w
  cases te with
  | stk => trivial
  | exc c m => exact this
  | ok y =>
    obtain ⟨k, h', e1, w2⟩ := this
    exact ⟨k, _, h', e1, w2.len, w2.addVal _⟩
theorem xe_guard {e : ME} {te : ER M Y} {dy : Y → List SD} {r : Y → SD} {K G : Y → Prop} (p : XE F ds e te dy r dm K) : XE F ds e (te.bind fun y => chkE (G y) (.ok y)) dy r dm (fun y => K y ∧ G y) := fun s h w => by
  have := p s h w
  cases te with
  | stk => trivial
  | exc c m => exact this
  | ok y =>
    simp only [er_bind_ok]
    unfold chkE
    split
    · rename_i y' hy
      split at hy
      · cases hy
        obtain ⟨k, q⟩ := this
        exact ⟨⟨k, ‹_›⟩, q⟩
      · cases hy
    · rename_i hy; split at hy <;> cases hy
    · trivial
theorem xe_binL {g : G2} {a b : ME} {te : ER M Y} {dy : Y → List SD} {va vb c : Y → AV} {K : Y → Prop} (p : XE F ds a te dy (fun y => .val (va y)) dm K) (q : ∀ y, K y → PE F (dy y) b (vb y)) (o : ∀ y, K y → ∀ h, g (va y) (vb y) h = some (c y)) : XE F ds (mBin g a b) te dy (fun y => .val (c y)) dm K := xe_of fun s h w => by
  have := xe_val p w
  cases te with
  | stk => trivial
  | exc c m => obtain ⟨h', e1, w2⟩ := this; exact ⟨h', by rw [ap_bin, e1]; rfl, w2⟩
  | ok y => obtain ⟨k, h', e1, w2⟩ := this; exact ⟨k, h', by rw [ap_bin, e1, bind_ok, q y k s h' w2, bind_ok, o y k h']; rfl, w2⟩
theorem xe_binR {g : G2} {a b : ME} {te : ER M Y} {dy : Y → List SD} {va : AV} {vb c : Y → AV} {K : Y → Prop} (q : PE F ds a va) (p : XE F ds b te dy (fun y => .val (vb y)) dm K) (o : ∀ y, K y → ∀ h, g va (vb y) h = some (c y)) : XE F ds (mBin g a b) te dy (fun y => .val (c y)) dm K := xe_of fun s h w => by
  have := xe_val p w
  have e0 := q s h w
  cases te with
  | stk => trivial
  | exc c m => obtain ⟨h', e1, w2⟩ := this; exact ⟨h', by rw [ap_bin, e0, bind_ok, e1]; rfl, w2⟩
  | ok y => obtain ⟨k, h', e1, w2⟩ := this; exact ⟨k, h', by rw [ap_bin, e0, bind_ok, e1, bind_ok, o y k h']; rfl, w2⟩
theorem xt_test {e : ME} {te : ER M Y} {dy : Y → List SD} {b : Y → Bool} {K : Y → Prop} (p : XE F ds e te dy (fun y => .val (.bl (b y))) dm K) : XT F ds (mTest e) te dy b dm K := fun s h w => by
  have := xe_val p w
  cases te with
  | stk => trivial
  | exc c m => obtain ⟨h', e1, w2⟩ := this; exact ⟨h', by rw [ap_test, e1]; rfl, w2⟩
  | ok y => obtain ⟨k, h', e1, w2⟩ := this; exact ⟨k, h', by rw [ap_test, e1]; rfl, w2⟩
def ER.told (te : ER M Y) (cl : List (Str × Str)) (fo : Y → Option Z) (fx : Str → M → Z) : ER M' Z := match te with
  | .ok y => match fo y with
    | some z => .ok z
    | none => .stk
  | .exc c m => match cl.lookup c with
    | some r => .ok (fx r m)
    | none => .stk
  | .stk => .stk
@[simp] theorem told_ok' (y : Y) (cl : List (Str × Str)) (fo : Y → Option Z) (fx : Str → M → Z) : ((ER.ok y : ER M Y).told cl fo fx : ER M' Z) = match fo y with
    | some z => .ok z
    | none => .stk := rfl
@[simp] theorem told_exc' (c : Str) (m : M) (cl : List (Str × Str)) (fo : Y → Option Z) (fx : Str → M → Z) : ((ER.exc c m : ER M Y).told cl fo fx : ER M' Z) = match cl.lookup c with
    | some r => .ok (fx r m)
    | none => .stk := rfl
variable {D : Ds N S R M}
theorem ts_letX {e : ME} {i : Nat} {rest : MS} {te : ER M Y} {dy : Y → List SD} {r : Y → SD} {K : Y → Prop} {k : Y → Ct N S R M} (p : XE F ds e te dy r D.ex K) (hi : i < ds.length) (q : ∀ y, K y → TS F ((dy y).set i (r y)) rest (k y) D) : TS F ds (mSeq (mAsg e (tName i)) rest) (te.bindC k) D := fun s h w => by
  have := p s h w
  have hl0 := w.len
  rw [ap_seq, ap_asg]
  cases te with
  | stk => trivial
  | exc c m => obtain ⟨h', e1, w2⟩ := this; rw [e1]; exact ⟨s, h', rfl, w2⟩
  | ok y =>
    obtain ⟨kk, v, h', e1, hl, w2⟩ := this
    rw [e1, toS_ok, then_nx]
    exact q y kk _ _ (w2.mvLast hl (by omega))
theorem ts_exprX {e : ME} {rest : MS} {te : ER M Y} {dy : Y → List SD} {r : Y → SD} {K : Y → Prop} {k : Y → Ct N S R M} (p : XE F ds e te dy r D.ex K) (q : ∀ y, K y → TS F (dy y) rest (k y) D) : TS F ds (mSeq (mExprS e) rest) (te.bindC k) D := fun s h w => by
  have := p s h w
  rw [ap_seq, ap_exprS]
  cases te with
  | stk => trivial
  | exc c m => obtain ⟨h', e1, w2⟩ := this; rw [e1]; exact ⟨s, h', rfl, w2⟩
  | ok y =>
    obtain ⟨kk, v, h', e1, hl, w2⟩ := this
    rw [e1, toS_ok, then_nx]
    exact q y kk _ _ (w2.back1 hl)
theorem ts_ifX {c : MT} {A B : MS} {te : ER M Y} {dy : Y → List SD} {b : Y → Bool} {K : Y → Prop} {tA tB : Y → Ct N S R M} (p : XT F ds c te dy b D.ex K) (ha : ∀ y, K y → b y = true → TS F (dy y) A (tA y) D) (hb : ∀ y, K y → b y = false → TS F (dy y) B (tB y) D) : TS F ds (mIfS c A B) (te.bindC fun y => if b y = true then tA y else tB y) D := fun s h w => by
  have := p s h w
  rw [ap_ifS]
  cases te with
  | stk => trivial
  | exc c m => obtain ⟨h', e1, w2⟩ := this; rw [e1]; exact ⟨s, h', rfl, w2⟩
  | ok y =>
    obtain ⟨kk, h', e1, w2⟩ := this
    rw [e1, toS_ok, er_bindC_ok]
    by_cases c : b y = true
    · rw [if_pos c, if_pos c]; exact ha y kk c _ _ w2
    · rw [if_neg c, if_neg c]; exact hb y kk (by simpa using c) _ _ w2
end
end S9
end
section
set_option Elab.async false
set_option linter.all false
set_option maxRecDepth 100000
set_option maxHeartbeats 4000000
namespace S9
open PySem PySem.Spec PyProof.Rows L2 S3
def NRO : LO → Prop
  | .lst xs => S3.LVs 0 xs
  | .dK kvs => S3.LKs 0 kvs
  | .dT kvs => S3.LTs 0 kvs
  | .lck _ => False
theorem LKs.mono0 {n : Nat} : ∀ {kvs : List (Key × AV)}, S3.LKs 0 kvs → S3.LKs n kvs
  | [], _ => trivial
  | (_, a) :: r, l => ⟨S3.LV.mono (Nat.zero_le n) a l.1, LKs.mono0 l.2⟩
theorem LTs.mono0 {n : Nat} : ∀ {kvs : List (List Key × AV)}, S3.LTs 0 kvs → S3.LTs n kvs
  | [], _ => trivial
  | (_, a) :: r, l => ⟨S3.LV.mono (Nat.zero_le n) a l.1, LTs.mono0 l.2⟩
theorem NRO.lo {o : LO} (w : NRO o) (n : Nat) : S3.LO n o.ao := by
  cases o with
  | lst xs => exact S3.LVs.mono (Nat.zero_le n) xs w
  | dK kvs => exact LKs.mono0 w
  | dT kvs => exact LTs.mono0 w
  | lck o => exact w.elim
def putF (f : Str) (x : FV) : List (Str × FV) → List (Str × FV)
  | [] => [(f, x)]
  | (g, y) :: r => if g = f then (g, x) :: r else (g, y) :: putF f x r
section
variable {F : Fr} {ds : List SD} {h h' : AH}
/-- a field is given another value -/
theorem FAt.putV {f : Str} {a : AV} (n : NR a) : ∀ {fs : List (Str × FV)} {avs : List (Str × AV)} {A : List Nat}, FAt h fs avs A → (∀ x ∈ A, h'[x]? = h[x]?) → ∃ A', FAt h' (putF f (.val a) fs) (putA f a avs) A' ∧ ∀ x ∈ A', x ∈ A
  | [], _, _, w, e => by
    obtain ⟨rfl, rfl⟩ := w
    exact ⟨[], ⟨[], rfl, n, rfl, rfl⟩, fun _ z => nomatch z⟩
  | (g, .val v) :: r, _, _, w, e => by
    obtain ⟨r', rfl, nv, w⟩ := w
    unfold putF putA
    by_cases c : g = f
    · rw [if_pos c, if_pos c]; exact ⟨_, ⟨r', rfl, n, w.frame e⟩, fun _ z => z⟩
    · rw [if_neg c, if_neg c]
      obtain ⟨A', q1, q2⟩ := FAt.putV n w e
      exact ⟨A', ⟨_, rfl, nv, q1⟩, q2⟩
  | (g, .own o) :: r, _, _, w, e => by
    obtain ⟨b, r', A1, rfl, e1, rfl, n1, w⟩ := w
    have e' : ∀ x ∈ A1, h'[x]? = h[x]? := fun x hx => e x (List.mem_cons_of_mem _ hx)
    unfold putF putA
    by_cases c : g = f
    · rw [if_pos c, if_pos c]; exact ⟨_, ⟨r', rfl, n, w.frame e'⟩, fun x z => List.mem_cons_of_mem _ z⟩
    · rw [if_neg c, if_neg c]
      obtain ⟨A', q1, q2⟩ := FAt.putV n w e'
      refine ⟨b :: A', ⟨b, _, A', rfl, by rw [e b List.mem_cons_self]; exact e1, rfl, fun z => n1 (q2 _ z), q1⟩, fun x z => ?_⟩
      rcases List.mem_cons.mp z with rfl | z
      · exact List.mem_cons_self
      · exact List.mem_cons_of_mem _ (q2 x z)
  | (g, .oat b o) :: r, _, _, w, e => by
    obtain ⟨r', A1, rfl, e1, rfl, n1, w⟩ := w
    have e' : ∀ x ∈ A1, h'[x]? = h[x]? := fun x hx => e x (List.mem_cons_of_mem _ hx)
    unfold putF putA
    by_cases c : g = f
    · rw [if_pos c, if_pos c]; exact ⟨_, ⟨r', rfl, n, w.frame e'⟩, fun x z => List.mem_cons_of_mem _ z⟩
    · rw [if_neg c, if_neg c]
      obtain ⟨A', q1, q2⟩ := FAt.putV n w e'
      refine ⟨b :: A', ⟨_, A', rfl, by rw [e b List.mem_cons_self]; exact e1, rfl, fun z => n1 (q2 _ z), q1⟩, fun x z => ?_⟩
      rcases List.mem_cons.mp z with rfl | z
      · exact List.mem_cons_self
      · exact List.mem_cons_of_mem _ (q2 x z)
/-- .. a new thing -/
theorem FAt.putO {f : Str} {o : LO} {b : Nat} (eb : h'[b]? = some o.ao) : ∀ {fs : List (Str × FV)} {avs : List (Str × AV)} {A : List Nat}, FAt h fs avs A → b ∉ A → (∀ x ∈ A, h'[x]? = h[x]?) → ∃ A', FAt h' (putF f (.own o) fs) (putA f (.ref b) avs) A' ∧ ∀ x ∈ A', x ∈ A ∨ x = b
  | [], _, _, w, nb, e => by
    obtain ⟨rfl, rfl⟩ := w
    exact ⟨[b], ⟨b, [], [], rfl, eb, rfl, (fun z => nomatch z), rfl, rfl⟩, fun x z => .inr (List.mem_singleton.mp z)⟩
  | (g, .val v) :: r, _, _, w, nb, e => by
    obtain ⟨r', rfl, nv, w⟩ := w
    unfold putF putA
    by_cases c : g = f
    · rw [if_pos c, if_pos c]
      refine ⟨b :: _, ⟨b, r', _, rfl, eb, rfl, nb, w.frame e⟩, fun x z => ?_⟩
      rcases List.mem_cons.mp z with z | z
      · exact .inr z
      · exact .inl z
    · rw [if_neg c, if_neg c]
      obtain ⟨A', q1, q2⟩ := FAt.putO eb w nb e
      exact ⟨A', ⟨_, rfl, nv, q1⟩, q2⟩
  | (g, .own o2) :: r, _, _, w, nb, e => by
    obtain ⟨b2, r', A1, rfl, e1, rfl, n1, w⟩ := w
    have e' : ∀ x ∈ A1, h'[x]? = h[x]? := fun x hx => e x (List.mem_cons_of_mem _ hx)
    unfold putF putA
    by_cases c : g = f
    · rw [if_pos c, if_pos c]
      refine ⟨b :: A1, ⟨b, r', A1, rfl, eb, rfl, fun z => nb (List.mem_cons_of_mem _ z), w.frame e'⟩, fun x z => ?_⟩
      rcases List.mem_cons.mp z with z | z
      · exact .inr z
      · exact .inl (List.mem_cons_of_mem _ z)
    · rw [if_neg c, if_neg c]
      obtain ⟨A', q1, q2⟩ := FAt.putO eb w (fun z => nb (List.mem_cons_of_mem _ z)) e'
      refine ⟨b2 :: A', ⟨b2, _, A', rfl, by rw [e b2 List.mem_cons_self]; exact e1, rfl, fun z => ?_, q1⟩, fun x z => ?_⟩
      · rcases q2 _ z with z | z
        · exact n1 z
        · exact nb (by rw [z]; exact List.mem_cons_self)
      · rcases List.mem_cons.mp z with rfl | z
        · exact .inl List.mem_cons_self
        · rcases q2 x z with z | z
          · exact .inl (List.mem_cons_of_mem _ z)
          · exact .inr z
  | (g, .oat b2 o2) :: r, _, _, w, nb, e => by
    obtain ⟨r', A1, rfl, e1, rfl, n1, w⟩ := w
    have e' : ∀ x ∈ A1, h'[x]? = h[x]? := fun x hx => e x (List.mem_cons_of_mem _ hx)
    unfold putF putA
    by_cases c : g = f
    · rw [if_pos c, if_pos c]
      refine ⟨b :: A1, ⟨b, r', A1, rfl, eb, rfl, fun z => nb (List.mem_cons_of_mem _ z), w.frame e'⟩, fun x z => ?_⟩
      rcases List.mem_cons.mp z with z | z
      · exact .inr z
      · exact .inl (List.mem_cons_of_mem _ z)
    · rw [if_neg c, if_neg c]
      obtain ⟨A', q1, q2⟩ := FAt.putO eb w (fun z => nb (List.mem_cons_of_mem _ z)) e'
      refine ⟨b2 :: A', ⟨_, A', rfl, by rw [e b2 List.mem_cons_self]; exact e1, rfl, fun z => ?_, q1⟩, fun x z => ?_⟩
      · rcases q2 _ z with z | z
        · exact n1 z
        · exact nb (by rw [z]; exact List.mem_cons_self)
      · rcases List.mem_cons.mp z with rfl | z
        · exact .inl List.mem_cons_self
        · rcases q2 x z with z | z
          · exact .inl (List.mem_cons_of_mem _ z)
          · exact .inr z
/-- a field's thing changes -/
theorem FAt.updO {f : Str} {o o' : LO} {b : Nat} : ∀ {fs : List (Str × FV)} {avs : List (Str × AV)} {A : List Nat}, FAt h fs avs A → fs.lookup f = some (.own o) → avs.lookup f = some (.ref b) → h'[b]? = some o'.ao → (∀ x ∈ A, x ≠ b → h'[x]? = h[x]?) → FAt h' (putF f (.own o') fs) avs A
  | [], _, _, w, el, _, _, _ => nomatch el
  | (g, .val v) :: r, _, _, w, el, ea, eb, e => by
    obtain ⟨r', rfl, nv, w⟩ := w
    rw [List.lookup_cons] at el ea
    unfold putF
    cases k : f == g with
    | true => rw [k] at el; injection el with el; cases el
    | false =>
      rw [k] at el ea
      rw [if_neg (by rintro rfl; simp at k)]
      exact ⟨r', rfl, nv, w.updO el ea eb e⟩
  | (g, .own o2) :: r, _, _, w, el, ea, eb, e => by
    obtain ⟨b2, r', A1, rfl, e1, rfl, n1, w⟩ := w
    rw [List.lookup_cons] at el ea
    unfold putF
    cases k : f == g with
    | true =>
      rw [k] at el ea
      have : g = f := by simpa using (by simpa using k : f = g).symm
      rw [if_pos this]
      injection ea with ea; injection ea with ea; subst ea
      exact ⟨b2, r', A1, rfl, eb, rfl, n1, w.frame fun x hx => e x (List.mem_cons_of_mem _ hx) fun z => n1 (z ▸ hx)⟩
    | false =>
      rw [k] at el ea
      rw [if_neg (by rintro rfl; simp at k)]
      have hb2 : b2 ≠ b := by
        rintro rfl
        obtain ⟨b3, e3, _, e4⟩ := w.lookO el
        have ea : r'.lookup f = some (.ref b2) := ea
        rw [ea] at e3; injection e3 with e3; injection e3 with e3; subst e3
        exact n1 e4
      exact ⟨b2, r', A1, rfl, by rw [e b2 List.mem_cons_self hb2]; exact e1, rfl, n1, w.updO el ea eb fun x hx => e x (List.mem_cons_of_mem _ hx)⟩
  | (g, .oat b2 o2) :: r, _, _, w, el, ea, eb, e => by
    obtain ⟨r', A1, rfl, e1, rfl, n1, w⟩ := w
    rw [List.lookup_cons] at el ea
    unfold putF
    cases k : f == g with
    | true => rw [k] at el; injection el with el; cases el
    | false =>
      rw [k] at el ea
      rw [if_neg (by rintro rfl; simp at k)]
      have hb2 : b2 ≠ b := by
        rintro rfl
        obtain ⟨b3, e3, _, e4⟩ := w.lookO el
        have ea : r'.lookup f = some (.ref b2) := ea
        rw [ea] at e3; injection e3 with e3; injection e3 with e3; subst e3
        exact n1 e4
      exact ⟨r', A1, rfl, by rw [e b2 List.mem_cons_self hb2]; exact e1, rfl, n1, w.updO el ea eb fun x hx => e x (List.mem_cons_of_mem _ hx)⟩
theorem FAt.len : ∀ {fs : List (Str × FV)} {avs : List (Str × AV)} {A : List Nat}, FAt h fs avs A → avs.length = fs.length
  | [], _, _, w => by obtain ⟨rfl, _⟩ := w; rfl
  | (g, .val v) :: r, _, _, w => by obtain ⟨r', rfl, nv, w⟩ := w; simp [w.len]
  | (g, .own o) :: r, _, _, w => by obtain ⟨b2, r', A1, rfl, e1, rfl, n1, w⟩ := w; simp [w.len]
  | (g, .oat b2 o) :: r, _, _, w => by obtain ⟨r', A1, rfl, e1, rfl, n1, w⟩ := w; simp [w.len]
theorem FAt.lf {n : Nat} : ∀ {fs : List (Str × FV)} {avs : List (Str × AV)} {A : List Nat}, FAt h fs avs A → (∀ a ∈ A, a < n) → S3.LFs n avs
  | [], _, _, w, _ => by obtain ⟨rfl, _⟩ := w; trivial
  | (g, .val v) :: r, _, _, w, l => by
    obtain ⟨r', rfl, nv, w⟩ := w
    exact ⟨S3.LV.mono (Nat.zero_le n) v nv, w.lf l⟩
  | (g, .own o) :: r, _, _, w, l => by
    obtain ⟨b2, r', A1, rfl, e1, rfl, n1, w⟩ := w
    exact ⟨l _ List.mem_cons_self, w.lf fun a ha => l a (List.mem_cons_of_mem _ ha)⟩
  | (g, .oat b2 o) :: r, _, _, w, l => by
    obtain ⟨r', A1, rfl, e1, rfl, n1, w⟩ := w
    exact ⟨l _ List.mem_cons_self, w.lf fun a ha => l a (List.mem_cons_of_mem _ ha)⟩
/-- where a list or dict that changes stands, what becomes of the surroundings when it does -/
def Foc (F : Fr) (ds : List SD) (e : ME) (o : LO) (up : LO → List SD) : Prop := ∀ s h, EnvP F ds s h → ∃ b, e s h = .ok (.ref b) h ∧ h[b]? = some o.ao ∧ ∀ o', NRO o' → EnvP F (up o') s (h.set b o'.ao)
theorem foc_var {i : Nat} {d : SD} {o : LO} (e : ds[i]? = some d) (ho : d.isO (.leaf o)) : Foc F ds (mVar i) o fun o' => ds.set i (d.re (.leaf o')) := fun s h w => by
  obtain ⟨fp, w⟩ := w
  obtain ⟨b, e1, ⟨e2, e3⟩, _⟩ := w.getO e ho
  refine ⟨b, by unfold mVar; rw [e1], e2, fun o' n => ?_⟩
  have hb := (List.getElem?_eq_some_iff.mp e2).1
  refine EnvP.updO w (A := [b]) e ho e1 (Stp.set w.hok.cl (n.lo _) (by rw [e3]; exact List.mem_singleton.mpr rfl)) ⟨List.getElem?_set_self hb, rfl⟩ fun a ha => .inl (by rw [e3]; exact ha)
theorem foc_fld {i : Nat} {d : SD} {c f : Str} {fs : List (Str × FV)} {o : LO} (e : ds[i]? = some d) (ho : d.isO (.ins c fs)) (el : fs.lookup f = some (.own o)) : Foc F ds (mUn (gFld c f) (mVar i)) o fun o' => ds.set i (d.re (.ins c (putF f (.own o') fs))) := fun s h w => by
  obtain ⟨fp, w⟩ := w
  obtain ⟨b, e1, ⟨avs, A', e2, wf, e3, n1⟩, _⟩ := w.getO e ho
  have ev : mVar i s h = .ok (.ref b) h := by unfold mVar; rw [e1]
  obtain ⟨b', e4, e5, e6⟩ := wf.lookO el
  have hb := (List.getElem?_eq_some_iff.mp e5).1
  refine ⟨b', ?_, e5, fun o' n => ?_⟩
  · show (mVar i s h).bind _ = _
    rw [ev, bind_ok]
    unfold gFld
    rw [vIns_ref e2]
    show ofO (avs.lookup f) h = _
    rw [e4]; rfl
  · have nb : b ≠ b' := by rintro rfl; exact n1 e6
    refine EnvP.updO w (A := b :: A') e ho e1 (Stp.set w.hok.cl (n.lo _) (by rw [e3]; exact List.mem_cons_of_mem _ e6)) ⟨avs, A', by rw [List.getElem?_set_ne (Ne.symm nb)]; exact e2, wf.updO el e4 (List.getElem?_set_self hb) fun x hx hne => List.getElem?_set_ne (Ne.symm hne), rfl, n1⟩ fun a ha => .inl (by rw [e3]; exact ha)
section
variable {M Y N S R : Type} {dm : M → List SD}
/-- xs.append(e) -/
theorem xe_append {e a : ME} {xs : List AV} {up : LO → List SD} {v : AV} (f : Foc F ds e (.lst xs) up) (p : PE F ds a v) (n : NRO (.lst (xs ++ [v]))) (hl : xs.length < sizeLine) : XE F ds (mBM tyL gAppend e (mCons a mNil)) (.ok () : ER M Unit) (fun _ => up (.lst (xs ++ [v]))) (fun _ => .val .non) dm yes := xe_of fun s h w => by
  obtain ⟨b, e1, e2, k⟩ := f s h w
  have e2 : h[b]? = some (.lst xs) := e2
  refine ⟨trivial, _, ?_, k _ n⟩
  have ty : tyL (.ref b) h = true := by unfold tyL; rw [vLR_ref e2]; rfl
  rw [ap_bm, e1, bind_ok, if_pos ty, ap_cons, p s h w]
  show (match gAppend (.ref b) [v] h with
    | some (c, h3) => Rs.ok c h3
    | none => .stk) = _
  rw [append_ref e2 hl]; rfl
/-- xs.pop() -/
theorem xe_pop {e : ME} {xs : List AV} {up : LO → List SD} {v : AV} (f : Foc F ds e (.lst (xs ++ [v])) up) (n : NRO (.lst xs)) : XE F ds (mBM tyL gPop e mNil) (.ok () : ER M Unit) (fun _ => up (.lst xs)) (fun _ => .val v) dm yes := xe_of fun s h w => by
  obtain ⟨b, e1, e2, k⟩ := f s h w
  have e2 : h[b]? = some (.lst (xs ++ [v])) := e2
  refine ⟨trivial, _, ?_, k _ n⟩
  have ty : tyL (.ref b) h = true := by unfold tyL; rw [vLR_ref e2]; rfl
  rw [ap_bm, e1, bind_ok, if_pos ty, ap_nil, bind_ok, pop_ref e2]; rfl
variable {D : Ds N S R M} {t : Ct N S R M}
/-- o[i] = e -/
theorem ts_sub1 {mo mi mv : ME} {o o' : LO} {up : LO → List SD} {i v : AV} {rest : MS} (f : Foc F ds mo o up) (pi : PE F ds mi i) (pv : PE F ds mv v) (n : NRO o') (ok : ∀ h b, h[b]? = some o.ao → gSet (.ref b) i v h = some (h.set b o'.ao)) (q : TS F (up o') rest t D) : TS F ds (mSeq (mSubSet mo mi mv) rest) t D := fun s h w => by
  obtain ⟨b, e1, e2, k⟩ := f s h w
  rw [ap_seq, ap_subSet, pv s h w, toS_ok, e1, toS_ok, pi s h w, toS_ok, ok h b e2, then_nx]
  exact q _ _ (k _ n)
/-- x.f = e -/
theorem ts_fld {i : Nat} {d : SD} {c f : Str} {fs : List (Str × FV)} {mv : ME} {v : AV} {rest : MS} (e : ds[i]? = some d) (ho : d.isO (.ins c fs)) (p : PE F ds mv v) (n : NR v) (hl : fs.length < 1000) (q : TS F (ds.set i (d.re (.ins c (putF f (.val v) fs)))) rest t D) : TS F ds (mSeq (mFldSet c f (mVar i) mv) rest) t D := fun s h w => by
  have pv := p s h w
  obtain ⟨fp, w⟩ := w
  obtain ⟨b, e1, ⟨avs, A', e2, wf, e3, n1⟩, _⟩ := w.getO e ho
  have ev : mVar i s h = .ok (.ref b) h := by unfold mVar; rw [e1]
  have hb := (List.getElem?_eq_some_iff.mp e2).1
  rw [ap_seq, ap_fldSet, pv, toS_ok, ev, toS_ok]
  simp only [e2]
  rw [if_pos ⟨trivial, by rw [wf.len]; exact hl⟩, then_nx]
  obtain ⟨A2, q1, q2⟩ := wf.putV (f := f) (h' := h.set b (.ins c (putA f v avs))) n fun x hx => List.getElem?_set_ne (by rintro rfl; exact n1 hx)
  have lt : ∀ a ∈ A2, a < h.length := fun a ha => wf.lt a (q2 a ha)
  exact q _ _ (EnvP.updO w (A := b :: A2) e ho e1 (Stp.set w.hok.cl (q1.lf lt) (by rw [e3]; exact List.mem_cons_self)) ⟨_, A2, List.getElem?_set_self hb, q1, rfl, fun z => n1 (q2 _ z)⟩ fun a ha => .inl (by
    rw [e3]
    rcases List.mem_cons.mp ha with rfl | ha
    · exact List.mem_cons_self
    · exact List.mem_cons_of_mem _ (q2 a ha)))
/-- a new thing at the heap's end -/
theorem EnvP.alloc {s : Sl} {o : LO} (w : EnvP F ds s h) (n : NRO o) : EnvP F (ds ++ [.own (.leaf o)]) (s ++ [some (.ref h.length)]) (h ++ [o.ao]) := by
  obtain ⟨fp, w⟩ := w
  have keep : ∀ i, ∀ a ∈ fp i, (h ++ [o.ao])[a]? = h[a]? := fun i a ha => List.getElem?_append_left (w.lt ha)
  refine ⟨fun i => if i = ds.length then [h.length] else fp i, ⟨by rw [List.length_append, List.length_append, w.len]; rfl, fun i d e => ?_, fun i hi => ?_, ⟨closed_add w.hok.cl (n.lo _), by rw [List.length_append]; have := w.hok.le; omega, fun i hi k => ?_⟩, ⟨fun i j a h1 h2 => ?_, fun i a h1 => ?_⟩⟩⟩
  · rcases get_app e with ⟨hi, e⟩ | ⟨hi, e⟩
    · obtain ⟨x, e1, sk⟩ := w.slot i d e
      refine ⟨x, by rw [app_l (by rw [w.len]; exact hi)]; exact e1, ?_⟩
      rw [if_neg (by omega)]; exact sk.frame (keep i)
    · have : i = ds.length := by
        have := (List.getElem?_eq_some_iff.mp e).1
        simp only [List.length_singleton] at this; omega
      subst this
      rw [Nat.sub_self] at e
      cases e
      refine ⟨some (.ref h.length), by rw [← w.len, List.getElem?_append_right (Nat.le_refl _), Nat.sub_self]; rfl, h.length, rfl, ?_⟩
      rw [if_pos rfl]
      exact ⟨getElem?_snoc _ _, rfl⟩
  · rw [List.length_append, List.length_singleton] at hi
    rw [if_neg (by omega)]; exact w.out i (by omega)
  · rw [List.getElem?_append_left (by have := w.hok.le; omega)]; exact w.hok.fr i hi k
  · have aux : ∀ i, a ∈ (if i = ds.length then [h.length] else fp i) → (i = ds.length ∧ a = h.length) ∨ (i ≠ ds.length ∧ a ∈ fp i) := fun i z => by
      split at z
      · exact .inl ⟨‹_›, List.mem_singleton.mp z⟩
      · exact .inr ⟨‹_›, z⟩
    rcases aux i h1 with ⟨a1, b1⟩ | ⟨a1, b1⟩ <;> rcases aux j h2 with ⟨a2, b2⟩ | ⟨a2, b2⟩
    · rw [a1, a2]
    · have := w.lt b2; omega
    · have := w.lt b1; omega
    · exact w.fok.dj _ _ _ b1 b2
  · split at h1
    · have := w.hok.le
      obtain rfl := List.mem_singleton.mp h1; exact .inr (by omega)
    · exact w.fok.fresh _ _ h1
theorem xe_new {e : ME} {o : LO} (n : NRO o) (p : ∀ s h, EnvP F ds s h → e s h = .ok (.ref h.length) (h ++ [o.ao])) : XE F ds e (.ok () : ER M Unit) (fun _ => ds) (fun _ => .own (.leaf o)) dm yes := fun s h w => ⟨trivial, _, _, p s h w, w.len, w.alloc n⟩
theorem xe_lstM {m : MA} {vs : List AV} (p : PA F ds m vs) (n : S3.LVs 0 vs) (hl : vs.length ≤ sizeLine) : XE F ds (mLstM m) (.ok () : ER M Unit) (fun _ => ds) (fun _ => .own (.leaf (.lst vs))) dm yes := xe_new (o := .lst vs) n fun s h w => by
  rw [ap_lstM, p s h w, bind_ok, if_pos hl]; rfl
theorem xe_dnewK : XE F ds mDNewK (.ok () : ER M Unit) (fun _ => ds) (fun _ => .own (.leaf (.dK []))) dm yes := xe_new (o := .dK []) trivial fun s h w => rfl
/-- x.f = a new thing -/
theorem ts_fldX {i : Nat} {d : SD} {c f : Str} {fs : List (Str × FV)} {mv : ME} {o : LO} {te : ER M Unit} {rest : MS} (e : ds[i]? = some d) (ho : d.isO (.ins c fs)) (p : XE F ds mv te (fun _ => ds) (fun _ => .own (.leaf o)) D.ex yes) (et : te = .ok ()) (hl : fs.length < 1000) (q : TS F (ds.set i (d.re (.ins c (putF f (.own o) fs)))) rest t D) : TS F ds (mSeq (mFldSet c f (mVar i) mv) rest) t D := fun s h w => by
  subst et
  obtain ⟨_, v, h', ev, hls, w2⟩ := p s h w
  obtain ⟨fp, w2⟩ := w2
  have hi := (List.getElem?_eq_some_iff.mp e).1
  have e' : (ds ++ [SD.own (.leaf o)])[i]? = some d := by rw [app_l hi]; exact e
  obtain ⟨b, e1, ⟨avs, A', e2, wf, e3, n1⟩, _⟩ := w2.getO e' ho
  rw [app_l (by rw [hls]; exact hi)] at e1
  obtain ⟨x, e4, ⟨bo, rfl, eo, efp⟩⟩ := w2.slot ds.length _ (by rw [List.getElem?_append_right (Nat.le_refl _), Nat.sub_self]; rfl)
  rw [← hls, List.getElem?_append_right (Nat.le_refl _), Nat.sub_self] at e4
  injection e4 with e4; injection e4 with e4; subst e4
  have evi : mVar i s h' = .ok (.ref b) h' := by unfold mVar; rw [e1]
  have hb := (List.getElem?_eq_some_iff.mp e2).1
  have hbo : bo ∈ fp ds.length := by rw [efp]; exact List.mem_singleton.mpr rfl
  have hnb : bo ∉ fp i := fun z => by have := w2.fok.dj _ _ _ hbo z; omega
  rw [e3] at hnb
  rw [ap_seq, ap_fldSet, ev, toS_ok, evi, toS_ok]
  simp only [e2]
  rw [if_pos ⟨trivial, by rw [wf.len]; exact hl⟩, then_nx]
  have hbb : bo ≠ b := by rintro rfl; exact hnb List.mem_cons_self
  obtain ⟨A2, q1, q2⟩ := wf.putO (f := f) (o := o) (b := bo) (h' := h'.set b (.ins c (putA f (.ref bo) avs))) (by rw [List.getElem?_set_ne (Ne.symm hbb)]; exact eo) (fun z => hnb (List.mem_cons_of_mem _ z)) fun x hx => List.getElem?_set_ne (by rintro rfl; exact n1 hx)
  have lt : ∀ a ∈ A2, a < h'.length := fun a ha => by
    rcases q2 a ha with z | z
    · exact wf.lt a z
    · rw [z]; exact (List.getElem?_eq_some_iff.mp eo).1
  have cl := closed_set (b := b) w2.hok.cl (o := .ins c (putA f (.ref bo) avs)) (q1.lf lt)
  have fr : ∀ x, x ≠ b → (h'.set b (.ins c (putA f (.ref bo) avs)))[x]? = h'[x]? := fun x hx => List.getElem?_set_ne (Ne.symm hx)
  have len := w2.len
  -- the new surroundings, footprints: slot i has b, A2
  refine q s _ ⟨fun j => if j = i then b :: A2 else if j < ds.length then fp j else [], ⟨by rw [List.length_set]; exact hls, fun j d' ej => ?_, fun j hj => ?_, ⟨cl, by rw [List.length_set]; exact w2.hok.le, fun j hj n => ?_⟩, ⟨fun j k a h1 h2 => ?_, fun j a h1 => ?_⟩⟩⟩
  · by_cases z : j = i
    · subst z
      rw [List.getElem?_set_self hi] at ej
      cases ej
      refine ⟨_, e1, ?_⟩
      rw [if_pos rfl]
      have ow : Owns (h'.set b (.ins c (putA f (.ref bo) avs))) b (.ins c (putF f (.own o) fs)) (b :: A2) := ⟨_, A2, List.getElem?_set_self hb, q1, rfl, fun z => by
        rcases q2 _ z with z | z
        · exact n1 z
        · exact hbb z.symm⟩
      rcases ho with rfl | ⟨x, rfl⟩
      · exact ⟨b, rfl, ow⟩
      · obtain ⟨y, e5, e6, _⟩ := w2.slot j _ e'
        rw [app_l (by rw [hls]; exact hi), e1] at e5
        cases e5; cases e6
        exact ⟨rfl, ow⟩
    · rw [List.getElem?_set_ne (Ne.symm z)] at ej
      have hj := (List.getElem?_eq_some_iff.mp ej).1
      obtain ⟨x, e5, sk⟩ := w2.slot j d' (by rw [app_l hj]; exact ej)
      rw [app_l (by rw [hls]; exact hj)] at e5
      refine ⟨x, e5, ?_⟩
      rw [if_neg z, if_pos hj]
      refine sk.frame fun a ha => fr a ?_
      rintro rfl
      exact z (w2.fok.dj j i _ ha (by rw [e3]; exact List.mem_cons_self))
  · rw [List.length_set] at hj
    rw [if_neg (by omega), if_neg (by omega)]
  · rw [fr j fun z => ?_]
    · exact w2.hok.fr j hj n
    · subst z
      rcases w2.fok.fresh i j (by rw [e3]; exact List.mem_cons_self) with z | z
      · exact n z
      · omega
  · have aux : ∀ j, a ∈ (if j = i then b :: A2 else if j < ds.length then fp j else []) → (j = i ∧ (a ∈ fp i ∨ a ∈ fp ds.length)) ∨ (j ≠ i ∧ j < ds.length ∧ a ∈ fp j) := fun j z => by
      split at z
      · refine .inl ⟨‹_›, ?_⟩
        rcases List.mem_cons.mp z with z | z
        · exact .inl (by rw [z, e3]; exact List.mem_cons_self)
        · rcases q2 _ z with z | z
          · exact .inl (by rw [e3]; exact List.mem_cons_of_mem _ z)
          · exact .inr (by rw [z]; exact hbo)
      · split at z
        · exact .inr ⟨‹_›, ‹_›, z⟩
        · cases z
    rcases aux j h1 with ⟨a1, b1⟩ | ⟨a1, c1, b1⟩ <;> rcases aux k h2 with ⟨a2, b2⟩ | ⟨a2, c2, b2⟩
    · rw [a1, a2]
    · rcases b1 with b1 | b1
      · have := w2.fok.dj _ _ _ b1 b2; omega
      · have := w2.fok.dj _ _ _ b1 b2; omega
    · rcases b2 with b2 | b2
      · have := w2.fok.dj _ _ _ b1 b2; omega
      · have := w2.fok.dj _ _ _ b1 b2; omega
    · exact w2.fok.dj _ _ _ b1 b2
  · split at h1
    · rcases List.mem_cons.mp h1 with z | z
      · exact w2.fok.fresh i a (by rw [z, e3]; exact List.mem_cons_self)
      · rcases q2 _ z with z | z
        · exact w2.fok.fresh i a (by rw [e3]; exact List.mem_cons_of_mem _ z)
        · exact w2.fok.fresh ds.length a (by rw [z]; exact hbo)
    · split at h1
      · exact w2.fok.fresh _ _ h1
      · cases h1
end
end
end S9
end
section
set_option Elab.async false
set_option linter.all false
set_option maxRecDepth 100000
set_option maxHeartbeats 4000000
namespace S9
open PySem PySem.Spec PyProof.Rows L2 S3
def ent (bs : Nat → Nat) : Nat → List SD → List SD
  | _, [] => []
  | i, .own o :: r => .at (bs i) o :: ent bs (i + 1) r
  | i, d :: r => d :: ent bs (i + 1) r
theorem ent_len (bs : Nat → Nat) : ∀ (ad : List SD) (i : Nat), (ent bs i ad).length = ad.length
  | [], _ => rfl
  | .own o :: r, i => by show (ent bs (i + 1) r).length + 1 = _; rw [ent_len bs r]; rfl
  | .dead :: r, i => by show (ent bs (i + 1) r).length + 1 = _; rw [ent_len bs r]; rfl
  | .val _ :: r, i => by show (ent bs (i + 1) r).length + 1 = _; rw [ent_len bs r]; rfl
  | .at _ _ :: r, i => by show (ent bs (i + 1) r).length + 1 = _; rw [ent_len bs r]; rfl
theorem ent_get (bs : Nat → Nat) : ∀ (ad : List SD) (k i : Nat), (ent bs k ad)[i]? = (ad[i]?).map fun d => match d with
    | .own o => .at (bs (k + i)) o
    | d => d
  | [], _, _ => rfl
  | d :: r, k, 0 => by cases d <;> rfl
  | d :: r, k, i + 1 => by
    have ih := ent_get bs r (k + 1) i
    rw [show k + 1 + i = k + (i + 1) by omega] at ih
    cases d <;> exact ih
section
variable {M Y S : Type}
def Ct.finR (t : Ct Empty S Y M) : ER M Y := match t with
  | .rt y => .ok y
  | .exc c m => .exc c m
  | _ => .stk
@[simp] theorem ct_finR_rt (y : Y) : (Ct.rt y : Ct Empty S Y M).finR = .ok y := rfl
@[simp] theorem ct_finR_exc (c : Str) (m : M) : (Ct.exc c m : Ct Empty S Y M).finR = .exc c m := rfl
def bsOf (vs : List AV) (i : Nat) : Nat := match vs[i]? with
  | some (.ref b) => b
  | _ => 0
theorem env_in {F : Fr} {ad : List SD} {vs : List AV} {h : AH} {n : Nat} (w : EnvP F ad (vs.map some) h) : EnvP F (ent (bsOf vs) 0 ad ++ List.replicate n .dead) (vs.map some ++ List.replicate n none) h := by
  have hl := w.len
  have hr : ∀ (i : Nat) (o : MO), ad[i]? = some (.own o) → vs[i]? = some (.ref (bsOf vs i)) := fun i o e => by
    obtain ⟨fp, w⟩ := w
    obtain ⟨x, e1, b, rfl, _⟩ := w.slot i _ e
    rw [List.getElem?_map] at e1
    cases k : vs[i]? with
    | none => rw [k] at e1; cases e1
    | some v => rw [k] at e1; injection e1 with e1; injection e1 with e1; subst e1; unfold bsOf; rw [k]
  refine w.reidx id (by simp [ent_len]; simpa using hl) (fun i j _ _ e => e) fun i d' e => ?_
  rcases get_app e with ⟨hi, e⟩ | ⟨hi, e⟩
  · rw [ent_len] at hi
    have e0 := e
    rw [ent_get, List.getElem?_eq_getElem hi] at e
    have e : (match ad[i] with
      | SD.own o => SD.at (bsOf vs (0 + i)) o
      | d => d) = d' := by simpa using e
    have eo : (vs.map some ++ List.replicate n none)[i]? = (vs.map some)[i]? := app_l (by omega)
    have ei := List.getElem?_eq_getElem hi
    generalize ad[i] = d at *
    refine .inr ⟨d, ei, eo, ?_⟩
    cases d with
    | own o =>
      right; right
      rw [Nat.zero_add] at e
      refine ⟨_, o, e.symm, rfl, ?_⟩
      rw [eo, List.getElem?_map, hr i o ei]; rfl
    | dead => exact .inl e.symm
    | val a => exact .inl e.symm
    | «at» b o => exact .inl e.symm
  · rw [List.getElem?_replicate] at e
    split at e
    · cases e; exact .inl rfl
    · cases e
theorem env_out {F : Fr} {ad dy ex : List SD} {vs : List AV} {s sx : Sl} {h0 h : AH} {n : Nat} {F0 : Fr} (w0 : EnvP F0 ad (vs.map some) h0) (hd : ∀ (i : Nat) (d : SD), dy[i]? = some d → d = .dead ∨ ∃ o o', d = .own o ∧ ad[i]? = some (.own o')) (hl : dy.length = ad.length) (hs : s.length = ad.length + n) (w : EnvP F ((ent (bsOf vs) 0 dy ++ List.replicate n .dead) ++ ex) (s ++ sx) h) : EnvP F (dy ++ ex) (vs.map some ++ sx) h := by
  have hl0 := w0.len
  have hlw := w.len
  simp only [List.length_append, ent_len, List.length_replicate] at hlw
  have hr : ∀ (i : Nat) (o : MO), ad[i]? = some (.own o) → vs[i]? = some (.ref (bsOf vs i)) := fun i o e => by
    obtain ⟨fp, w⟩ := w0
    obtain ⟨x, e1, b, rfl, _⟩ := w.slot i _ e
    rw [List.getElem?_map] at e1
    cases k : vs[i]? with
    | none => rw [k] at e1; cases e1
    | some v => rw [k] at e1; injection e1 with e1; injection e1 with e1; subst e1; unfold bsOf; rw [k]
  have at_ := w.atOk
  refine w.reidx (fun i => if i < dy.length then i else i + n) (by simp only [List.length_append]; omega) (fun i j _ _ e => ?_) fun i d' e => ?_
  · split at e <;> split at e <;> omega
  · rcases get_app e with ⟨hi, e⟩ | ⟨hi, e⟩
    · rcases hd i d' e with rfl | ⟨o, o', rfl, e2⟩
      · exact .inl rfl
      · have e3 : ((ent (bsOf vs) 0 dy ++ List.replicate n .dead) ++ ex)[i]? = some (.at (bsOf vs i) o) := by
          rw [app_l (by rw [List.length_append, ent_len]; omega), app_l (by rw [ent_len]; exact hi), ent_get, e]
          simp
        refine .inr ⟨_, by rw [if_pos hi]; exact e3, ?_, .inr (.inl ⟨_, _, rfl, rfl⟩)⟩
        rw [if_pos hi, at_ i _ _ e3, app_l (by omega), List.getElem?_map, hr i o' e2]; rfl
    · refine .inr ⟨d', ?_, ?_, .inl rfl⟩
      · rw [if_neg (by omega), List.getElem?_append_right (by simp only [List.length_append, ent_len, List.length_replicate]; omega)]
        simp only [List.length_append, ent_len, List.length_replicate]
        rw [show i + n - (dy.length + n) = i - dy.length by omega]; exact e
      · rw [if_neg (by omega), List.getElem?_append_right (by omega), List.getElem?_append_right (by omega)]
        congr 1; omega
def fnD (n : Nat) (bs : Nat → Nat) (res : Y → SD) (dy : Y → List SD) (dm : M → List SD) : Ds Y S Y M where
  nx := fun y => ent bs 0 (dy y) ++ List.replicate n .dead
  lp := fun _ => []
  rt := fun y => (ent bs 0 (dy y) ++ List.replicate n .dead, res y)
  ex := fun m => ent bs 0 (dm m) ++ List.replicate n .dead
def fnDR (n : Nat) (bs : Nat → Nat) (res : Y → SD) (dy : Y → List SD) (dm : M → List SD) : Ds Empty S Y M where
  nx := fun y => nomatch y
  lp := fun _ => []
  rt := fun y => (ent bs 0 (dy y) ++ List.replicate n .dead, res y)
  ex := fun m => ent bs 0 (dm m) ++ List.replicate n .dead
def Same (ad dy : List SD) : Prop := dy.length = ad.length ∧ ∀ (i : Nat) (d : SD), dy[i]? = some d → d = .dead ∨ ∃ o o', d = .own o ∧ ad[i]? = some (.own o')
theorem same_nil : Same [] [] := ⟨rfl, fun i d e => nomatch e⟩
theorem same_d {d : SD} {ad dy : List SD} (h : Same ad dy) : Same (d :: ad) (.dead :: dy) := ⟨by simp [h.1], fun i x e => by
  cases i with
  | zero => cases e; exact .inl rfl
  | succ i => exact h.2 i x e⟩
theorem same_o {o o' : MO} {ad dy : List SD} (h : Same ad dy) : Same (.own o :: ad) (.own o' :: dy) := ⟨by simp [h.1], fun i x e => by
  cases i with
  | zero => cases e; exact .inr ⟨o', o, rfl, rfl⟩
  | succ i => exact h.2 i x e⟩
theorem fok_body {n k r : Nat} {m : MS} {ad : List SD} {t : Ct Y S Y M} {res : Y → SD} {dy : Y → List SD} {dm : M → List SD} (hk : ad.length = k) (hr : n = k + r) (hn : ∀ y, res y = .val .non) (s1 : ∀ y, Same ad (dy y)) (s2 : ∀ m, Same ad (dm m)) (H : ∀ F bs, TS F (ent bs 0 ad ++ List.replicate r .dead) m t (fnD r bs res dy dm)) : FOk (defSem n k m) ad t.fin res dy dm := fun F vs h w => by
  have hl := w.len
  rw [List.length_map] at hl
  have := H F (bsOf vs) _ _ (env_in (n := r) w)
  have ef : defSem n k m vs h = (m (vs.map some ++ List.replicate r none) h).fin := by
    unfold defSem
    rw [if_pos (by omega), show n - k = r by omega]
  rw [ef]
  revert this
  generalize m (vs.map some ++ List.replicate r none) h = res1
  intro this
  cases t with
  | stk => trivial
  | bk y => trivial
  | ct y => trivial
  | nx y =>
    obtain ⟨s, h', rfl, w2⟩ := this
    have hs := w2.len
    simp only [fnD, List.length_append, ent_len, List.length_replicate, (s1 y).1] at hs
    refine ⟨.non, h', rfl, (s1 y).1, ?_⟩
    rw [hn]
    refine env_out (ex := [.val .non]) (sx := [some .non]) w (s1 y).2 (s1 y).1 hs ?_
    exact w2.addVal .non
  | rt y =>
    obtain ⟨v, s, h', rfl, hs, w2⟩ := this
    simp only [fnD, List.length_append, ent_len, List.length_replicate, (s1 y).1] at hs
    exact ⟨v, h', rfl, (s1 y).1, env_out w (s1 y).2 (s1 y).1 hs w2⟩
  | exc c m =>
    obtain ⟨s, h', rfl, w2⟩ := this
    have hs := w2.len
    simp only [fnD, List.length_append, ent_len, List.length_replicate, (s2 m).1] at hs
    refine ⟨h', rfl, (s2 m).1, ?_⟩
    have := env_out (ex := []) (sx := []) w (s2 m).2 (s2 m).1 hs (by simpa [fnD] using w2)
    simpa using this
theorem fok_bodyR {n k r : Nat} {m : MS} {ad : List SD} {t : Ct Empty S Y M} {res : Y → SD} {dy : Y → List SD} {dm : M → List SD} (hk : ad.length = k) (hr : n = k + r) (s1 : ∀ y, Same ad (dy y)) (s2 : ∀ m, Same ad (dm m)) (H : ∀ F bs, TS F (ent bs 0 ad ++ List.replicate r .dead) m t (fnDR r bs res dy dm)) : FOk (defSem n k m) ad t.finR res dy dm := fun F vs h w => by
  have hl := w.len
  rw [List.length_map] at hl
  have := H F (bsOf vs) _ _ (env_in (n := r) w)
  have ef : defSem n k m vs h = (m (vs.map some ++ List.replicate r none) h).fin := by
    unfold defSem
    rw [if_pos (by omega), show n - k = r by omega]
  rw [ef]
  revert this
  generalize m (vs.map some ++ List.replicate r none) h = res1
  intro this
  cases t with
  | stk => trivial
  | bk y => trivial
  | ct y => trivial
  | nx y => exact y.elim
  | rt y =>
    obtain ⟨v, s, h', rfl, hs, w2⟩ := this
    simp only [fnDR, List.length_append, ent_len, List.length_replicate, (s1 y).1] at hs
    exact ⟨v, h', rfl, (s1 y).1, env_out w (s1 y).2 (s1 y).1 hs w2⟩
  | exc c m =>
    obtain ⟨s, h', rfl, w2⟩ := this
    have hs := w2.len
    simp only [fnDR, List.length_append, ent_len, List.length_replicate, (s2 m).1] at hs
    refine ⟨h', rfl, (s2 m).1, ?_⟩
    have := env_out (ex := []) (sx := []) w (s2 m).2 (s2 m).1 hs (by simpa [fnDR] using w2)
    simpa using this
end
section
variable {F : Fr} {ds : List SD} {s : Sl} {h h' : AH}
theorem EnvP.allocI {c : Str} (w : EnvP F ds s h) : EnvP F (ds ++ [.own (.ins c [])]) (s ++ [some (.ref h.length)]) (h ++ [.ins c []]) := by
  obtain ⟨fp, w⟩ := w
  have keep : ∀ i, ∀ a ∈ fp i, (h ++ [AO.ins c []])[a]? = h[a]? := fun i a ha => List.getElem?_append_left (w.lt ha)
  refine ⟨fun i => if i = ds.length then [h.length] else fp i, ⟨by rw [List.length_append, List.length_append, w.len]; rfl, fun i d e => ?_, fun i hi => ?_, ⟨closed_add w.hok.cl trivial, by rw [List.length_append]; have := w.hok.le; omega, fun i hi k => ?_⟩, ⟨fun i j a h1 h2 => ?_, fun i a h1 => ?_⟩⟩⟩
  · rcases get_app e with ⟨hi, e⟩ | ⟨hi, e⟩
    · obtain ⟨x, e1, sk⟩ := w.slot i d e
      refine ⟨x, by rw [app_l (by rw [w.len]; exact hi)]; exact e1, ?_⟩
      rw [if_neg (by omega)]; exact sk.frame (keep i)
    · have : i = ds.length := by
        have := (List.getElem?_eq_some_iff.mp e).1
        simp only [List.length_singleton] at this; omega
      subst this
      rw [Nat.sub_self] at e
      cases e
      refine ⟨some (.ref h.length), by rw [← w.len, List.getElem?_append_right (Nat.le_refl _), Nat.sub_self]; rfl, h.length, rfl, ?_⟩
      rw [if_pos rfl]
      exact ⟨[], [], getElem?_snoc _ _, ⟨rfl, rfl⟩, rfl, fun z => nomatch z⟩
  · rw [List.length_append, List.length_singleton] at hi
    rw [if_neg (by omega)]; exact w.out i (by omega)
  · rw [List.getElem?_append_left (by have := w.hok.le; omega)]; exact w.hok.fr i hi k
  · have aux : ∀ i, a ∈ (if i = ds.length then [h.length] else fp i) → (i = ds.length ∧ a = h.length) ∨ (i ≠ ds.length ∧ a ∈ fp i) := fun i z => by
      split at z
      · exact .inl ⟨‹_›, List.mem_singleton.mp z⟩
      · exact .inr ⟨‹_›, z⟩
    rcases aux i h1 with ⟨a1, b1⟩ | ⟨a1, b1⟩ <;> rcases aux j h2 with ⟨a2, b2⟩ | ⟨a2, b2⟩
    · rw [a1, a2]
    · have := w.lt b2; omega
    · have := w.lt b1; omega
    · exact w.fok.dj _ _ _ b1 b2
  · split at h1
    · have := w.hok.le
      obtain rfl := List.mem_singleton.mp h1; exact .inr (by omega)
    · exact w.fok.fresh _ _ h1
/-- the first behind goes to the end -/
theorem EnvP.rot {dk ex : List SD} {d : SD} {sx : Sl} {x : Option AV} (hl : s.length = dk.length) (w : EnvP F (dk ++ (d :: ex)) (s ++ (x :: sx)) h) : EnvP F (dk ++ (ex ++ [d])) (s ++ (sx ++ [x])) h := by
  have hlen := w.len
  simp only [List.length_append, List.length_cons] at hlen
  refine w.reidx (fun j => if j < dk.length then j else if j < dk.length + ex.length then j + 1 else dk.length) (by simp only [List.length_append, List.length_singleton]; omega) (fun j k l1 l2 e => ?_) fun j d' ej => .inr ⟨d', ?_, ?_, .inl rfl⟩
  · obtain ⟨_, e1, _⟩ := l1
    obtain ⟨_, e2, _⟩ := l2
    have h1 := (List.getElem?_eq_some_iff.mp e1).1
    have h2 := (List.getElem?_eq_some_iff.mp e2).1
    simp only [List.length_append, List.length_singleton] at h1 h2
    have aux : ∀ j, j < dk.length + (ex.length + 1) → (j < dk.length ∧ (if j < dk.length then j else if j < dk.length + ex.length then j + 1 else dk.length) = j) ∨ (dk.length ≤ j ∧ j < dk.length + ex.length ∧ (if j < dk.length then j else if j < dk.length + ex.length then j + 1 else dk.length) = j + 1) ∨ (j = dk.length + ex.length ∧ (if j < dk.length then j else if j < dk.length + ex.length then j + 1 else dk.length) = dk.length) := fun j hj => by
      by_cases c1 : j < dk.length
      · exact .inl ⟨c1, by rw [if_pos c1]⟩
      · by_cases c2 : j < dk.length + ex.length
        · exact .inr (.inl ⟨by omega, c2, by rw [if_neg c1, if_pos c2]⟩)
        · exact .inr (.inr ⟨by omega, by rw [if_neg c1, if_neg c2]⟩)
    have e : (if j < dk.length then j else if j < dk.length + ex.length then j + 1 else dk.length) = (if k < dk.length then k else if k < dk.length + ex.length then k + 1 else dk.length) := e
    rcases aux j h1 with ⟨a1, a2⟩ | ⟨a1, b1, a2⟩ | ⟨a1, a2⟩ <;> rcases aux k h2 with ⟨c1, c2⟩ | ⟨c1, d1, c2⟩ | ⟨c1, c2⟩ <;> rw [a2, c2] at e <;> omega
  · rcases get_app ej with ⟨hj, ej⟩ | ⟨hj, ej⟩
    · rw [if_pos hj, app_l hj]; exact ej
    · rw [if_neg (by omega)]
      rcases get_app ej with ⟨hk, ej⟩ | ⟨hk, ej⟩
      · rw [if_pos (by omega), show j + 1 = dk.length + (j - dk.length + 1) by omega, app_r]; exact ej
      · rw [if_neg (by omega)]
        have : j - dk.length - ex.length = 0 := by
          have := (List.getElem?_eq_some_iff.mp ej).1
          simp only [List.length_singleton] at this; omega
        rw [this] at ej
        have := app_r (a := dk) (b := d :: ex) (i := 0)
        rw [Nat.add_zero] at this
        rw [this]; exact ej
  · rcases get_app ej with ⟨hj, ej⟩ | ⟨hj, ej⟩
    · rw [if_pos hj, app_l (by omega), app_l (by omega)]
    · rw [if_neg (by omega)]
      rcases get_app ej with ⟨hk, ej⟩ | ⟨hk, ej⟩
      · rw [if_pos (by omega), show j + 1 = s.length + (j - s.length + 1) by omega, app_r, show j = s.length + (j - s.length) by omega, app_r, app_l (by omega)]
        rw [show s.length + (j - s.length) - s.length + 1 = j - s.length + 1 by omega]; rfl
      · rw [if_neg (by omega)]
        have : j - dk.length - ex.length = 0 := by
          have := (List.getElem?_eq_some_iff.mp ej).1
          simp only [List.length_singleton] at this; omega
        have e2 := app_r (a := s) (b := x :: sx) (i := 0)
        rw [Nat.add_zero, hl] at e2
        rw [e2, List.getElem?_append_right (by omega), List.getElem?_append_right (by omega), show j - s.length - sx.length = 0 by omega]; rfl
variable {M M' Y : Type}
/-- C(..) of a class whose instances change -/
theorem xe_make {c : Str} {f : Fn} {m : MA} {ad dk : List SD} {te : ER M Y} {fs : Y → List (Str × FV)} {dya : Y → List SD} {dma : M → List SD} {dh : M → SD} {as : List Ar} {dy : Y → List SD} {dm : M' → List SD} {mx : M → M'} (pa : PAr F ds m as) (g : Gv ds as dk ad) (fo : FOk f (.own (.ins c []) :: ad) te (fun _ => .val .non) (fun y => .own (.ins c (fs y)) :: dya y) (fun m => dh m :: dma m)) (b1 : ∀ y, Bk ds dk as (dya y) (dy y)) (b2 : ∀ m, ∃ r, Bk ds dk as (dma m) r ∧ Sub r (dm (mx m))) : XE F ds (mMake c f m) (te.mx mx) dy (fun y => .own (.ins c (fs y))) dm yes := fun s h w => by
  obtain ⟨vs, e1, a⟩ := pa s h w
  have hl := w.len
  have hk := g.len
  have w1 := g.go hl (w.allocI (c := c)) a
  rw [List.singleton_append, List.singleton_append] at w1
  obtain ⟨F1, wa, back⟩ := EnvP.frame (by omega) w1
  have := fo F1 (.ref h.length :: vs) _ wa
  have ec : mMake c f m s h = match f (.ref h.length :: vs) (h ++ [.ins c []]) with
    | .ok .non h2 => .ok (.ref h.length) h2
    | .ok _ _ => .stk
    | .exc c fs h2 => .exc c fs h2
    | .stk => .stk := by
    show (m s h).bind _ = _
    rw [e1]; rfl
  rw [ec]
  cases te with
  | stk => trivial
  | ok y =>
    obtain ⟨v, h', e, _, w2⟩ := this
    have w3 := back _ _ _ w2
    have hv : v = .non := by
      have l2 := wa.len
      simp only [List.length_map, List.length_cons] at l2
      have lw := w2.len
      simp only [List.length_append, List.length_cons, List.length_map, List.length_nil] at lw
      exact w2.lastVal (by simp only [List.length_cons, List.length_map]; omega)
    subst hv
    rw [e]
    have lw := w2.len
    simp only [List.length_append, List.length_cons, List.length_map, List.length_nil] at lw
    have w4 : EnvP F (dk ++ (SD.own (.ins c (fs y)) :: dya y)) (s ++ (some (.ref h.length) :: vs.map some)) h' := by
      refine EnvP.front (b := [.val .non]) (s' := [some .non]) ?_ (by simpa using w3)
      simp only [List.length_append, List.length_cons, List.length_map]; omega
    have w5 := w4.rot (by omega)
    refine ⟨trivial, .ref h.length, h', rfl, ?_, ?_⟩
    · rw [(b1 y).len]; omega
    · exact (b1 y).go (by omega) (by omega) w.atOk a w5
  | exc c2 m =>
    obtain ⟨h', e, _, w2⟩ := this
    have w3 := back _ _ _ w2
    rw [e]
    obtain ⟨r, b, u⟩ := b2 m
    have w4 : EnvP F (dk ++ (dh m :: dma m)) (s ++ (some (.ref h.length) :: vs.map some)) h' := by simpa using w3
    have w5 := w4.drop1 (by omega)
    have w6 := b.go (ex := []) (sx := []) (by omega) (by omega) w.atOk a (by simpa using w5)
    refine ⟨h', rfl, ?_⟩
    have w7 : EnvP F r s h' := by simpa using w6
    exact w7.sub u
def valsF (fs : List (Str × AV)) : List (Str × FV) := fs.map fun p => (p.1, .val p.2)
theorem valsF_at : ∀ {fs avs : List (Str × AV)} {A : List Nat}, FAt h (valsF fs) avs A → avs = fs ∧ A = [] ∧ S3.LFs 0 fs
  | [], _, _, w => by obtain ⟨rfl, rfl⟩ := w; exact ⟨rfl, rfl, trivial⟩
  | (f, a) :: r, _, _, w => by
    obtain ⟨r', rfl, n, w⟩ := w
    obtain ⟨rfl, rfl, l⟩ := valsF_at w
    exact ⟨rfl, rfl, n, l⟩
/-- .. as it comes back -/
inductive LeafK : List SD → List SD → Prop
  | nil : LeafK [] []
  | v {a : AV} {d : SD} {ad adk : List SD} (h : LeafK ad adk) : LeafK (.val a :: ad) (d :: adk)
  | o {o : LO} {ad adk : List SD} (h : LeafK ad adk) : LeafK (.own (.leaf o) :: ad) (.own (.leaf o) :: adk)
theorem leafs_nil : LeafK [] [] := .nil
theorem leafs_v {a : AV} {ad adk : List SD} (h : LeafK ad adk) : LeafK (.val a :: ad) (.dead :: adk) := .v h
theorem LeafK.len {ad adk : List SD} (h : LeafK ad adk) : adk.length = ad.length := by
  induction h with
  | nil => rfl
  | v _ ih => simp [ih]
  | o _ ih => simp [ih]
theorem LeafK.get {ad adk : List SD} (h : LeafK ad adk) : ∀ (i : Nat) (d : SD), ad[i]? = some d → (∃ a, d = .val a) ∨ ∃ o, d = .own (.leaf o) ∧ adk[i]? = some d := by
  induction h with
  | nil => intro i d e; cases e
  | v _ ih =>
    intro i d e
    cases i with
    | zero => cases e; exact .inl ⟨_, rfl⟩
    | succ i => exact ih i d e
  | o _ ih =>
    intro i d e
    cases i with
    | zero => cases e; exact .inr ⟨_, rfl, rfl⟩
    | succ i => exact ih i d e
theorem leafs_keep {F0 F1 : Fr} {ad adk : List SD} {s : Sl} {h h' : AH} {fp : Nat → List Nat} (lf : LeafK ad adk) (w : EnvAt F0 ad s h fp) (w2 : EnvP F1 adk s h') : ∀ i a, i < ad.length → a ∈ fp i → h'[a]? = h[a]? := fun i a hi ha => by
  obtain ⟨fp2, w2⟩ := w2
  have ei := List.getElem?_eq_getElem hi
  generalize ad[i] = d at *
  obtain ⟨x, e1, sk⟩ := w.slot i d ei
  rcases lf.get i d ei with ⟨v, rfl⟩ | ⟨o, rfl, ek⟩
  · obtain ⟨_, e⟩ := sk; rw [e] at ha; cases ha
  · obtain ⟨y, e2, sk2⟩ := w2.slot i _ ek
    obtain ⟨b, rfl, eb, ef⟩ := sk
    obtain ⟨b2, rfl, eb2, _⟩ := sk2
    rw [e1] at e2
    cases e2
    rw [ef] at ha
    obtain rfl := List.mem_singleton.mp ha
    rw [eb, eb2]
theorem xe_makeF {c : Str} {f : Fn} {m : MA} {ad adk dk : List SD} {te : ER M Y} {fs : Y → List (Str × AV)} {dma : M → List SD} {dh : M → SD} {as : List Ar} {dm : M' → List SD} {mx : M → M'} (pa : PAr F ds m as) (g : Gv ds as dk ad) (lf : LeafK ad adk) (fo : FOk f (.own (.ins c []) :: ad) te (fun _ => .val .non) (fun y => .own (.ins c (valsF (fs y))) :: adk) (fun m => dh m :: adk)) (b2 : ∀ m, Sub ds (dm (mx m))) : XE F ds (mMakeF c (cleanI c f) m) (te.mx mx) (fun _ => ds) (fun y => .val (.ins c (fs y))) dm yes := xe_of fun s h w => by
  obtain ⟨vs, e1, a⟩ := pa s h w
  have hl := w.len
  have hk := g.len
  have w1 := g.go hl (w.allocI (c := c)) a
  rw [List.singleton_append, List.singleton_append] at w1
  obtain ⟨fp, wfp⟩ := w1
  have wlen := wfp.len
  simp only [List.length_append, List.length_cons, List.length_map] at wlen
  -- the def's own surroundings
  let F1 : Fr := ⟨h ++ [.ins c []], fun a => ∃ j, dk.length ≤ j ∧ a ∈ fp j⟩
  have wa : EnvAt F1 (.own (.ins c []) :: ad) ((some (.ref h.length)) :: vs.map some) (h ++ [.ins c []]) (fun j => fp (dk.length + j)) := ⟨by simp only [List.length_cons, List.length_map]; omega, fun i d e => by
      obtain ⟨x, e1, sk⟩ := wfp.slot (dk.length + i) d (by rw [app_r]; exact e)
      rw [app_r' (by omega)] at e1
      exact ⟨x, e1, sk⟩, fun i hi => wfp.out _ (by simp only [List.length_append, List.length_cons] at hi ⊢; omega), ⟨wfp.hok.cl, Nat.le_refl _, fun _ _ _ => rfl⟩, ⟨fun i j a h1 h2 => by have := wfp.fok.dj _ _ _ h1 h2; omega, fun i a h1 => .inl ⟨_, by omega, h1⟩⟩⟩
  have hfp0 : fp dk.length = [h.length] := by
    obtain ⟨x, e1, b, ex, avs, A', e2, wf, e3, _⟩ := wa.slot 0 _ rfl
    obtain ⟨rfl, rfl⟩ := wf
    have : b = h.length := by
      have : some (AV.ref h.length) = x := Option.some.inj e1
      rw [ex] at this
      injection this with this; injection this with this; exact this.symm
    rw [← this]; exact e3
  have ec : mMakeF c (cleanI c f) m s h = (cleanI c f vs h).bind fun fs h2 => .ok (.ins c fs) h2 := by
    show (m s h).bind _ = _
    rw [e1]; rfl
  have := fo F1 (.ref h.length :: vs) _ ⟨_, wa⟩
  -- what of the old heap the def has not changed: all
  have same : ∀ (d0 : SD) (x : List SD) (sx : Sl) (h' : AH), EnvP F1 ((d0 :: adk) ++ x) (some (.ref h.length) :: vs.map some ++ sx) h' → h'.take h.length = h := fun d0 x sx h' w2 => by
    have w3 : EnvP F1 (d0 :: adk) (some (.ref h.length) :: vs.map some) h' := w2.front (by simp only [List.length_cons, List.length_map, lf.len]; omega)
    have w4 : EnvP F1 adk (vs.map some) h' := EnvP.drop1 (dk := []) (s := []) rfl w3
    have wad : EnvAt F1 ad (vs.map some) (h ++ [.ins c []]) (fun j => fp (dk.length + (j + 1))) := ⟨by simp only [List.length_map]; omega, fun i d e => by
        obtain ⟨x, e1, sk⟩ := wa.slot (i + 1) d e
        exact ⟨x, e1, sk⟩, fun i hi => wfp.out _ (by simp only [List.length_append, List.length_cons]; omega), wa.hok, ⟨fun i j a h1 h2 => by have := wfp.fok.dj _ _ _ h1 h2; omega, fun i a h1 => .inl ⟨_, by omega, h1⟩⟩⟩
    obtain ⟨fp4, w4'⟩ := id w4
    have hle : h.length + 1 ≤ h'.length := by
      have := w4'.hok.le
      have e : F1.h0.length = h.length + 1 := by show (h ++ [AO.ins c []]).length = _; simp
      omega
    refine List.ext_getElem? fun i => ?_
    by_cases hi : i < h.length
    · rw [List.getElem?_take_of_lt hi]
      have e0 : (h ++ [AO.ins c []])[i]? = h[i]? := app_l hi
      by_cases z : ∃ j, dk.length ≤ j ∧ i ∈ fp j
      · obtain ⟨j, hj, z⟩ := z
        have hj0 : j ≠ dk.length := by
          rintro rfl
          rw [hfp0] at z
          have := List.mem_singleton.mp z; omega
        have hj2 : j - dk.length - 1 < ad.length := by
          rcases Nat.lt_or_ge j (dk.length + (ad.length + 1)) with q | q
          · omega
          · have := wfp.out j (by simp only [List.length_append, List.length_cons]; omega)
            rw [this] at z; cases z
        have := leafs_keep lf wad w4 (j - dk.length - 1) i hj2 (by rw [show dk.length + (j - dk.length - 1 + 1) = j by omega]; exact z)
        rw [this, e0]
      · have hh : F1.h0 = h ++ [AO.ins c []] := rfl
        have := w4'.hok.fr i (by rw [hh, List.length_append]; exact Nat.lt_of_lt_of_le hi (Nat.le_add_right _ _)) z
        rw [this]; exact e0
    · rw [List.getElem?_eq_none (by rw [List.length_take]; omega), List.getElem?_eq_none (by omega)]
  cases te with
  | stk => trivial
  | ok y =>
    obtain ⟨v, h', e, _, w2⟩ := this
    have lw := w2.len
    have hlk := lf.len
    have hv : v = .non := w2.lastVal (by simp only [List.length_cons, List.length_map]; omega)
    subst hv
    have et := same _ [.val .non] [some .non] h' (by simpa using w2)
    have ins : h'[h.length]? = some (.ins c (fs y)) ∧ S3.LFs 0 (fs y) := by
      obtain ⟨fp2, w2⟩ := w2
      obtain ⟨x, e3, b, rfl, avs, A', e4, wf, _⟩ := w2.slot 0 (.own (.ins c (valsF (fs y)))) rfl
      obtain ⟨rfl, _, l⟩ := valsF_at wf
      have : some (AV.ref h.length) = some (AV.ref b) := Option.some.inj e3
      injection this with this; injection this with this; subst this
      exact ⟨e4, l⟩
    have hlt := (List.getElem?_eq_some_iff.mp ins.1).1
    have split : h' = h ++ [AO.ins c (fs y)] ++ h'.drop (h.length + 1) := by
      have e5 : h'.take (h.length + 1) = h ++ [AO.ins c (fs y)] := by
        rw [List.take_succ, et, ins.1]; rfl
      rw [← e5, List.take_append_drop]
    have := cleanI_ok (c := c) (g := f) (as := vs) (h := h) (h1 := h) (r := h'.drop (h.length + 1)) (fs := fs y) (by rw [e, ← split]) rfl (by
      have mono : ∀ {fs : List (Str × AV)}, S3.LFs 0 fs → S3.LFs h.length fs := fun {fs} l => S3.LFs.mono (Nat.zero_le _) fs l
      exact mono ins.2) w.cl
    exact ⟨trivial, h, by rw [ec, this]; rfl, w⟩
  | exc c2 m =>
    obtain ⟨h', e, _, w2⟩ := this
    have et := same _ [] [] h' (by simpa using w2)
    have := cleanI_exc (c := c) (g := f) (as := vs) (h := h) (h1 := h) (r := h'.drop h.length) (d := c2) (fs := []) (by
      rw [e]
      have := List.take_append_drop h.length h'
      rw [et] at this
      rw [this]) rfl trivial w.cl
    exact ⟨h, by rw [ec, this]; rfl, w.sub (b2 m)⟩
end
end S9
end
section
set_option Elab.async false
set_option linter.all false
set_option maxRecDepth 100000
set_option maxHeartbeats 4000000
namespace S9
open PySem PySem.Spec PyProof.Rows L2 S3
section
variable {X σ τ S S' R M N : Type}
def forT (body : X → σ → Ct σ σ R M) : List X → σ → Ct σ S R M
  | [], y => .nx y
  | x :: xs, y => match body x y with
    | .nx y' => forT body xs y'
    | .ct y' => forT body xs y'
    | .bk y' => .nx y'
    | .rt z => .rt z
    | .exc c m => .exc c m
    | .stk => .stk
@[simp] theorem forT_nil {body : X → σ → Ct σ σ R M} {y : σ} : (forT body [] y : Ct σ S R M) = .nx y := rfl
theorem forT_cons {body : X → σ → Ct σ σ R M} {x : X} {L : List X} {y : σ} : (forT body (x :: L) y : Ct σ S R M) = match body x y with
    | .nx y' => forT body L y'
    | .ct y' => forT body L y'
    | .bk y' => .nx y'
    | .rt z => .rt z
    | .exc c m => .exc c m
    | .stk => .stk := rfl
end
section
variable {F : Fr} {ds : List SD} {X σ τ N S R M Y : Type} {D : Ds N S R M}
def PI (F : Fr) (ds : List SD) (mi : MI) (vs : List AV) : Prop := ∀ s h, EnvP F ds s h → ∃ rd, mi s h = .ok rd h ∧ ∀ h', rd h' = some vs
def TG (F : Fr) (ds : List SD) (t : Gt) (a : AV) (ds' : List SD) (is : List Nat) : Prop := ∀ s h, EnvP F ds s h → ∃ s', t a s h = some s' ∧ EnvP F ds' s' h ∧ s'.length = s.length ∧ ∀ j, j ∉ is → s'[j]? = s[j]?
def TGs (F : Fr) (ds : List SD) (t : Gts) (as : List AV) (ds' : List SD) (is : List Nat) : Prop := ∀ s h, EnvP F ds s h → ∃ s', t as s h = some s' ∧ EnvP F ds' s' h ∧ s'.length = s.length ∧ ∀ j, j ∉ is → s'[j]? = s[j]?
theorem tg_name {i : Nat} {a : AV} (hi : i < ds.length) : TG F ds (tName i) a (ds.set i (.val a)) [i] := fun s h w => ⟨_, rfl, w.setVal hi a, List.length_set, fun j hj => List.getElem?_set_ne (by rintro rfl; exact hj (List.mem_singleton.mpr rfl))⟩
theorem tgs_nil : TGs F ds tNone [] ds [] := fun s h w => ⟨s, rfl, w, rfl, fun _ _ => rfl⟩
theorem tgs_cons {t : Gt} {u : Gts} {a : AV} {as : List AV} {d1 d2 : List SD} {is js : List Nat} (p : TG F ds t a d1 is) (q : TGs F d1 u as d2 js) : TGs F ds (tMore t u) (a :: as) d2 (is ++ js) := fun s h w => by
  obtain ⟨s1, e1, w1, l1, o1⟩ := p s h w
  obtain ⟨s2, e2, w2, l2, o2⟩ := q s1 h w1
  refine ⟨s2, ?_, w2, by rw [l2, l1], fun j hj => ?_⟩
  · show (t a s h).bind _ = _
    rw [e1]; exact e2
  · rw [o2 j fun z => hj (List.mem_append_right _ z), o1 j fun z => hj (List.mem_append_left _ z)]
theorem tg_tup {n : Nat} {u : Gts} {xs : List AV} {d2 : List SD} {is : List Nat} (p : TGs F ds u xs d2 is) (hn : xs.length = n) : TG F ds (tTupT n u) (.tup xs) d2 is := fun s h w => by
  obtain ⟨s2, e2, w2⟩ := p s h w
  refine ⟨s2, ?_, w2⟩
  rw [ap_tup, if_pos hn, e2]
theorem pi_tup {e : ME} {xs : List AV} (p : PE F ds e (.tup xs)) : PI F ds (mSqT e) xs := fun s h w => ⟨fun _ => some xs, by rw [ap_sqT, p s h w, bind_ok]; rfl, fun _ => rfl⟩
theorem pi_rg1 {m : MA} {j : Int} (p : PA F ds m [.int j]) (g : okN j) : PI F ds (mRg1 m) (upL 0 1 j.toNat) := fun s h w => ⟨rdC _, by
  show (m s h).bind _ = _
  rw [p s h w, bind_ok]; exact if_pos g, fun _ => rfl⟩
theorem pi_eq {mi : MI} {xs ys : List AV} (e : xs = ys) (p : PI F ds mi xs) : PI F ds mi ys := by rw [← e]; exact p
theorem ts_for {mi : MI} {tgt : Gt} {b : MS} {E : X → AV} {L : List X} {I : σ → List SD} {J : X → σ → List SD} {is : List Nat} {bt : X → σ → Ct σ σ R M} {y0 : σ} {lp : S → List SD} {rt : R → List SD × SD} {ex : M → List SD} (src : PI F ds mi (L.map E)) (u : Sub ds (I y0)) (tg : ∀ x y, TG F (I y) tgt (E x) (J x y) is) (hb : ∀ x y, TS F (J x y) b (bt x y) { nx := I, lp := I, rt := rt, ex := ex }) : TS F ds (mFor mi tgt b) (forT bt L y0) { nx := I, lp := lp, rt := rt, ex := ex } := fun s h w => by
  obtain ⟨rd, e1, e2⟩ := src s h w
  rw [ap_for, e1, toS_ok, forL_const e2]
  replace w := w.sub u
  clear e1 e2 src u rd
  revert s h y0
  induction L with
  | nil => intro y0 s h w; exact ⟨s, h, rfl, w⟩
  | cons x L ih =>
    intro y0 s h w
    obtain ⟨s1, e3, w1, _, _⟩ := tg x y0 s h w
    rw [List.map_cons, forC_cons e3, forT_cons]
    have := hb x y0 s1 h w1
    cases k : bt x y0 with
    | nx y => rw [k] at this; obtain ⟨s2, h2, e4, w2⟩ := this; rw [e4]; exact ih s2 h2 w2
    | ct y => rw [k] at this; obtain ⟨s2, h2, e4, w2⟩ := this; rw [e4]; exact ih s2 h2 w2
    | bk y => rw [k] at this; obtain ⟨s2, h2, e4, w2⟩ := this; rw [e4]; exact ⟨s2, h2, rfl, w2⟩
    | rt z => rw [k] at this; obtain ⟨v, s2, h2, e4, w2⟩ := this; rw [e4]; exact ⟨v, s2, h2, rfl, w2⟩
    | exc c m => rw [k] at this; obtain ⟨s2, h2, e4, w2⟩ := this; rw [e4]; exact ⟨s2, h2, rfl, w2⟩
    | stk => trivial
theorem EnvP.wipe {vs : List Nat} {s : Sl} {h : AH} {ds' : List SD} (w : EnvP F ds s h) (u : Sub ds ds') (hk : ∀ v ∈ vs, ds'[v]? = some .dead) : EnvP F ds' (wipeA s vs) h := by
  have w := w.sub u
  induction vs with
  | nil => exact w
  | cons v vs ih =>
    have w2 := ih fun x hx => hk x (List.mem_cons_of_mem _ hx)
    have e := hk v List.mem_cons_self
    have := w2.kill (List.getElem?_eq_some_iff.mp e).1
    rw [set_self e] at this
    exact this
theorem lc_quiet {mi : MI} {t : Gt} {c : MT} {e : ME} {vs is : List Nat} {E0 : X → AV} {E1 : τ → AV} {L : List X} {p : X → Bool} {g : X → τ} {d0 : List SD} {J : X → List SD} (src : PI F ds mi (L.map E0)) (u : Sub ds d0) (hk : ∀ v ∈ vs, d0[v]? = some .dead) (tg : ∀ x, TG F d0 t (E0 x) (J x) is) (hc : ∀ x ∈ L, PT F (J x) c (p x)) (he : ∀ x ∈ L, p x = true → PE F (J x) e (E1 (g x))) (hl : L.length ≤ sizeLine) : ∀ s h, EnvP F ds s h → mLcA mi t c e vs s h = .ok (((L.filter p).map g).map E1) h := fun s h w => by
  obtain ⟨rd, e1, e2⟩ := src s h w
  show ((mi s h).bind fun rd h1 => lcL rd t c e (wipeA s vs) (rdLen rd h1) 0 [] h1) = _
  rw [e1, bind_ok, lcL_const e2]
  have w0 := w.wipe u hk
  have := lcC_map (t := t) (c := c) (e := e) (s0 := wipeA s vs) (h := h) E0 p (fun x => E1 (g x)) L [] (fun x hx => by
    obtain ⟨s1, e3, w1, _⟩ := tg x _ _ w0
    exact ⟨s1, e3, hc x hx s1 h w1, fun hp => he x hx hp s1 h w1⟩) (by simpa using hl)
  rw [this, List.map_map]; rfl
theorem pe_lc {mi : MI} {t : Gt} {c : MT} {e : ME} {vs is : List Nat} {E0 : X → AV} {E1 : τ → AV} {L : List X} {p : X → Bool} {g : X → τ} {d0 : List SD} {J : X → List SD} (src : PI F ds mi (L.map E0)) (u : Sub ds d0) (hk : ∀ v ∈ vs, d0[v]? = some .dead) (tg : ∀ x, TG F d0 t (E0 x) (J x) is) (hc : ∀ x ∈ L, PT F (J x) c (p x)) (he : ∀ x ∈ L, p x = true → PE F (J x) e (E1 (g x))) (hl : L.length ≤ sizeLine) : PE F ds (mLc mi t c e vs) (.lst (((L.filter p).map g).map E1)) := fun s h w => by
  show (mLcA mi t c e vs s h).bind _ = _
  rw [lc_quiet src u hk tg hc he hl s h w]; rfl
theorem pe_lc0 {mi : MI} {t : Gt} {e : ME} {vs is : List Nat} {E0 : X → AV} {E1 : τ → AV} {L : List X} {g : X → τ} {d0 : List SD} {J : X → List SD} (src : PI F ds mi (L.map E0)) (u : Sub ds d0) (hk : ∀ v ∈ vs, d0[v]? = some .dead) (tg : ∀ x, TG F d0 t (E0 x) (J x) is) (he : ∀ x ∈ L, PE F (J x) e (E1 (g x))) (hl : L.length ≤ sizeLine) : PE F ds (mLc mi t mYes e vs) (.lst ((L.map g).map E1)) := by
  have := pe_lc (p := fun _ => true) src u hk tg (fun x _ => pt_yes) (fun x hx _ => he x hx) hl
  rw [filter_yes] at this
  exact this
def PQ (F : Fr) (ds : List SD) (q : QE) (v : AV) : Prop := ∀ s h, EnvP F ds s h → q s h = some v
def PQT (F : Fr) (ds : List SD) (q : QT) (b : Bool) : Prop := ∀ s h, EnvP F ds s h → q s h = some b
theorem pq_c {a : AV} : PQ F ds (qC a) a := fun s h w => rfl
theorem pq_var {i : Nat} {a : AV} (e : ds[i]? = some (.val a)) : PQ F ds (qVar i) a := fun s h w => by
  show (s[i]?).join = _
  rw [w.getVal e]; rfl
theorem pq_bin {g : G2} {a b : QE} {va vb c : AV} (pa : PQ F ds a va) (pb : PQ F ds b vb) (o : ∀ h, g va vb h = some c) : PQ F ds (qBin g a b) c := fun s h w => by
  show (a s h).bind _ = _
  rw [pa s h w, Option.bind_some, pb s h w, Option.bind_some, o h]
theorem pqt_test {q : QE} {b : Bool} (p : PQ F ds q (.bl b)) : PQT F ds (qTest q) b := fun s h w => by
  show (q s h).bind _ = _
  rw [p s h w]; rfl
theorem pq_andE {a c : QE} {x y : Bool} (pa : PQ F ds a (.bl x)) (pc : x = true → PQ F ds c (.bl y)) : PQ F ds (qAndE a c) (.bl (x && y)) := fun s h w => by
  rw [aq_andE, pa s h w, Option.bind_some]
  cases x with
  | true => exact pc rfl s h w
  | false => rfl
theorem pqt_yes : PQT F ds (fun _ _ => some true) true := fun s h w => rfl
theorem pe_genN {fin : List AV → Option AV} {mi : MA} {i : Nat} {qt : QT} {qe : QE} {E0 : X → AV} {E1 : τ → AV} {L : List X} {p : X → Bool} {g : X → τ} {c : AV} (src : PA F ds mi (L.map E0)) (hi : i < ds.length) (hc : ∀ x ∈ L, PQT F (ds.set i (.val (E0 x))) qt (p x)) (he : ∀ x ∈ L, p x = true → PQ F (ds.set i (.val (E0 x))) qe (E1 (g x))) (hf : fin (((L.filter p).map g).map E1) = some c) : PE F ds (mGenN fin mi i qt qe) c := fun s h w => by
  rw [genN_map (h1 := h) E0 p (fun x => E1 (g x)) L (src s h w) fun x hx => ⟨hc x hx _ _ (w.setVal hi _), fun hp => he x hx hp _ _ (w.setVal hi _)⟩]
  rw [List.map_map] at hf
  show ofO (fin ((L.filter p).map (E1 ∘ g))) h = _
  rw [hf]; rfl
theorem pe_genU {fin : List AV → Option AV} {mi : MA} {i i' : Nat} {qt : QT} {qe : QE} {E0 k1 k2 : X → AV} {E1 : τ → AV} {L : List X} {p : X → Bool} {g : X → τ} {c : AV} (src : PA F ds mi (L.map E0)) (hp : ∀ x, pairA (E0 x) = some (k1 x, k2 x)) (hi : i < ds.length) (hi' : i' < ds.length) (hc : ∀ x ∈ L, PQT F ((ds.set i (.val (k1 x))).set i' (.val (k2 x))) qt (p x)) (he : ∀ x ∈ L, p x = true → PQ F ((ds.set i (.val (k1 x))).set i' (.val (k2 x))) qe (E1 (g x))) (hf : fin (((L.filter p).map g).map E1) = some c) : PE F ds (mGenU fin mi i i' qt qe) c := fun s h w => by
  have w' : ∀ x, EnvP F ((ds.set i (.val (k1 x))).set i' (.val (k2 x))) ((s.set i (some (k1 x))).set i' (some (k2 x))) h := fun x => (w.setVal hi _).setVal (by rw [List.length_set]; exact hi') _
  rw [genU_map (h1 := h) E0 k1 k2 p (fun x => E1 (g x)) L (src s h w) fun x hx => ⟨hp x, hc x hx _ _ (w' x), fun q => he x hx q _ _ (w' x)⟩]
  rw [List.map_map] at hf
  show ofO (fin ((L.filter p).map (E1 ∘ g))) h = _
  rw [hf]; rfl
theorem pa_seqI {e : ME} {V : AH → AV → Prop} {xs : List AV} (p : PV F ds e V) (sq : IsSq V xs) : PA F ds (mSeqI e) xs := fun s h w => by
  obtain ⟨v, e1, hv⟩ := p s h w
  show (e s h).bind _ = _
  rw [e1, bind_ok, sq h v hv]
theorem pa_seqP {e : ME} {V : AH → AV → Prop} {E0 : X → AV} {L : List X} {k : X → AV × AV} (p : PV F ds e V) (sq : IsSq V (L.map E0)) (hp : ∀ x, pairA (E0 x) = some (k x)) : PA F ds (mSeqP e) (L.map E0) := fun s h w => by
  obtain ⟨v, e1, hv⟩ := p s h w
  exact seqP_ok e1 (sq h v hv) fun x _ => by rw [hp x]; rfl
end
end S9
end
section
set_option Elab.async false
set_option linter.all false
set_option maxRecDepth 100000
set_option maxHeartbeats 4000000
namespace S9
open PySem PySem.Spec PyProof.Rows L2 S3
section
variable {F : Fr} {ds : List SD} {M M' Y Z N S R α β : Type} {dm : M → List SD}
/-- a quiet value is put first of what stands behind -/
theorem EnvP.insVal {dk ex : List SD} {s sx : Sl} {h : AH} (hl : s.length = dk.length) (w : EnvP F (dk ++ ex) (s ++ sx) h) (v : AV) : EnvP F (dk ++ (.val v :: ex)) (s ++ (some v :: sx)) h := by
  have hlen := w.len
  simp only [List.length_append] at hlen
  have w2 := w.addVal v
  have at1 : ∀ j, j < dk.length → ((dk ++ ex) ++ [SD.val v])[j]? = dk[j]? := fun j hj => by rw [app_l (by rw [List.length_append]; omega), app_l hj]
  have at2 : ∀ j, dk.length < j → (dk ++ (SD.val v :: ex))[j]? = ex[j - dk.length - 1]? := fun j hj => by
    rw [List.getElem?_append_right (by omega), show j - dk.length = (j - dk.length - 1) + 1 by omega]; rfl
  have at3 : ∀ j, s.length < j → (s ++ (some v :: sx))[j]? = sx[j - s.length - 1]? := fun j hj => by
    rw [List.getElem?_append_right (by omega), show j - s.length = (j - s.length - 1) + 1 by omega]; rfl
  refine w2.reidx (fun j => if j < dk.length then j else if j = dk.length then dk.length + ex.length else j - 1) (by simp only [List.length_append, List.length_cons]; omega) (fun j k l1 l2 e => ?_) fun j d' ej => .inr ⟨d', ?_, ?_, .inl rfl⟩
  · obtain ⟨_, e1, _⟩ := l1
    obtain ⟨_, e2, _⟩ := l2
    have h1 := (List.getElem?_eq_some_iff.mp e1).1
    have h2 := (List.getElem?_eq_some_iff.mp e2).1
    simp only [List.length_append, List.length_cons] at h1 h2
    have aux : ∀ j, j < dk.length + (ex.length + 1) → (j < dk.length ∧ (if j < dk.length then j else if j = dk.length then dk.length + ex.length else j - 1) = j) ∨ (j = dk.length ∧ (if j < dk.length then j else if j = dk.length then dk.length + ex.length else j - 1) = dk.length + ex.length) ∨ (dk.length < j ∧ (if j < dk.length then j else if j = dk.length then dk.length + ex.length else j - 1) = j - 1) := fun j hj => by
      by_cases c1 : j < dk.length
      · exact .inl ⟨c1, by rw [if_pos c1]⟩
      · by_cases c2 : j = dk.length
        · exact .inr (.inl ⟨c2, by rw [if_neg c1, if_pos c2]⟩)
        · exact .inr (.inr ⟨by omega, by rw [if_neg c1, if_neg c2]⟩)
    have e : (if j < dk.length then j else if j = dk.length then dk.length + ex.length else j - 1) = (if k < dk.length then k else if k = dk.length then dk.length + ex.length else k - 1) := e
    rcases aux j h1 with ⟨a1, a2⟩ | ⟨a1, a2⟩ | ⟨a1, a2⟩ <;> rcases aux k h2 with ⟨c1, c2⟩ | ⟨c1, c2⟩ | ⟨c1, c2⟩ <;> rw [a2, c2] at e <;> omega
  · by_cases c1 : j < dk.length
    · rw [if_pos c1, at1 j c1]; rw [app_l c1] at ej; exact ej
    · by_cases c2 : j = dk.length
      · rw [if_neg c1, if_pos c2, List.getElem?_append_right (by rw [List.length_append]; omega)]
        subst c2
        have := app_r (a := dk) (b := SD.val v :: ex) (i := 0)
        rw [Nat.add_zero] at this
        rw [this] at ej
        rw [List.length_append, Nat.sub_self]; exact ej
      · rw [if_neg c1, if_neg c2, app_l (by
          have := (List.getElem?_eq_some_iff.mp ej).1
          simp only [List.length_append, List.length_cons] at this ⊢; omega), List.getElem?_append_right (by omega)]
        rw [at2 j (by omega)] at ej
        rw [show j - 1 - dk.length = j - dk.length - 1 by omega]; exact ej
  · have hj := (List.getElem?_eq_some_iff.mp ej).1
    simp only [List.length_append, List.length_cons] at hj
    by_cases c1 : j < dk.length
    · rw [if_pos c1, app_l (by omega), app_l (by rw [List.length_append]; omega), app_l (by omega)]
    · by_cases c2 : j = dk.length
      · rw [if_neg c1, if_pos c2, List.getElem?_append_right (by omega), List.getElem?_append_right (by rw [List.length_append]; omega), List.length_append]
        rw [show j - s.length = 0 by omega, show dk.length + ex.length - (s.length + sx.length) = 0 by omega]; rfl
      · rw [if_neg c1, if_neg c2, at3 j (by omega), app_l (by rw [List.length_append]; omega), List.getElem?_append_right (by omega)]
        congr 1; omega
theorem EnvP.mvFirst {dk ex : List SD} {d : SD} {s sx : Sl} {x : Option AV} {h : AH} {i : Nat} (hl : s.length = dk.length) (hi : i < dk.length) (w : EnvP F (dk ++ (d :: ex)) (s ++ (x :: sx)) h) : EnvP F (dk.set i d ++ ex) (s.set i x ++ sx) h := by
  have w2 := w.rot hl
  rw [← List.append_assoc, ← List.append_assoc] at w2
  have hlen := w.len
  simp only [List.length_append, List.length_cons] at hlen
  have w3 := w2.mvLast (i := i) (by rw [List.length_append, List.length_append]; omega) (by rw [List.length_append]; omega)
  rw [List.set_append_left _ _ hi, List.set_append_left _ _ (by omega)] at w3
  exact w3
def XL (F : Fr) (ds : List SD) (m : MA) (te : ER M Y) (dy : Y → List SD) (rs : Y → List SD) (dm : M → List SD) (K : Y → Prop) : Prop := ∀ s h, EnvP F ds s h → match te with
  | .ok y => K y ∧ ∃ vs h', m s h = .ok vs h' ∧ vs.length = (rs y).length ∧ s.length = (dy y).length ∧ EnvP F (dy y ++ rs y) (s ++ vs.map some) h'
  | .exc c m' => ∃ h', m s h = .exc c [] h' ∧ EnvP F (dm m') s h'
  | .stk => True
theorem EnvP.addVals {s : Sl} {h : AH} : ∀ {vs : List AV} {ds : List SD} {s : Sl}, EnvP F ds s h → EnvP F (ds ++ vs.map .val) (s ++ vs.map some) h
  | [], ds, s, w => by simpa using w
  | a :: vs, ds, s, w => by
    have := EnvP.addVals (h := h) (vs := vs) (w.addVal a) (s := s ++ [some a])
    simpa using this
theorem xl_consE {a : ME} {m : MA} {te : ER M Y} {dy : Y → List SD} {r : Y → SD} {vs : Y → List AV} {K : Y → Prop} (p : XE F ds a te dy r dm K) (q : ∀ y, K y → PA F (dy y) m (vs y)) : XL F ds (mCons a m) te dy (fun y => r y :: (vs y).map .val) dm K := fun s h w => by
  have := p s h w
  cases te with
  | stk => trivial
  | exc c m => obtain ⟨h', e1, w2⟩ := this; exact ⟨h', by rw [ap_cons, e1]; rfl, w2⟩
  | ok y =>
    obtain ⟨k, v, h', e1, hl, w2⟩ := this
    refine ⟨k, v :: vs y, h', by rw [ap_cons, e1, bind_ok, q y k s h' (w2.back1 hl)]; rfl, by simp, hl, ?_⟩
    have := w2.addVals (s := s ++ [some v]) (vs := vs y)
    simpa using this
theorem xl_consV {a : ME} {m : MA} {ta : ER M Y} {tb : Y → ER M Z} {da : Y → List SD} {db : Y → Z → List SD} {va : Y → AV} {rs : Y → Z → List SD} {K : Y → Prop} {L : Y → Z → Prop} (p : XE F ds a ta da (fun y => .val (va y)) dm K) (q : ∀ y, K y → XL F (da y) m (tb y) (db y) (rs y) dm (L y)) : XL F ds (mCons a m) (ta.bind fun y => (tb y).map (Prod.mk y)) (fun z => db z.1 z.2) (fun z => .val (va z.1) :: rs z.1 z.2) dm (fun z => K z.1 ∧ L z.1 z.2) := fun s h w => by
  have := xe_val p w
  cases ta with
  | stk => trivial
  | exc c m => obtain ⟨h', e1, w2⟩ := this; exact ⟨h', by rw [ap_cons, e1]; rfl, w2⟩
  | ok y =>
    obtain ⟨k, h', e1, w2⟩ := this
    have := q y k s h' w2
    rw [er_bind_ok]
    cases k2 : tb y with
    | stk => trivial
    | exc c m => rw [k2] at this; obtain ⟨h2, e2, w3⟩ := this; exact ⟨h2, by rw [ap_cons, e1, bind_ok, e2]; rfl, w3⟩
    | ok z =>
      rw [k2] at this
      obtain ⟨l, vs, h2, e2, h3, h4, w3⟩ := this
      exact ⟨⟨k, l⟩, va y :: vs, h2, by rw [ap_cons, e1, bind_ok, e2]; rfl, by simp [h3], h4, EnvP.insVal h4 w3 _⟩
/-- names given what was reckoned -/
def setAll : List SD → List Nat → List SD → List SD
  | ds, i :: is, r :: rs => setAll (ds.set i r) is rs
  | ds, _, _ => ds
def tNames : List Nat → Gts
  | [] => tNone
  | i :: is => tMore (tName i) (tNames is)
theorem names_go {h : AH} : ∀ (is : List Nat) (rs : List SD) (vs : List AV) (ds : List SD) (s : Sl), s.length = ds.length → vs.length = rs.length → rs.length = is.length → (∀ i ∈ is, i < ds.length) → EnvP F (ds ++ rs) (s ++ vs.map some) h → ∃ s', tNames is vs s h = some s' ∧ EnvP F (setAll ds is rs) s' h
  | [], [], vs, ds, s, hl, h1, h2, _, w => by
    cases vs with
    | nil => exact ⟨s, rfl, by simpa [setAll] using w⟩
    | cons a r => cases h1
  | i :: is, r :: rs, vs, ds, s, hl, h1, h2, hi, w => by
    cases vs with
    | nil => cases h1
    | cons v vs =>
      have w2 := EnvP.mvFirst (i := i) hl (hi i List.mem_cons_self) w
      obtain ⟨s', e, w3⟩ := names_go is rs vs (ds.set i r) (s.set i (some v)) (by rw [List.length_set, List.length_set]; exact hl) (by simpa using h1) (by simpa using h2) (fun j hj => by rw [List.length_set]; exact hi j (List.mem_cons_of_mem _ hj)) w2
      exact ⟨s', e, w3⟩
  | [], _ :: _, _, _, _, _, _, h2, _, _ => nomatch h2
  | _ :: _, [], _, _, _, _, _, h2, _, _ => nomatch h2
variable {D : Ds N S R M}
theorem ts_asgL {m : MA} {n : Nat} {is : List Nat} {rest : MS} {te : ER M Y} {dy : Y → List SD} {rs : Y → List SD} {K : Y → Prop} {k : Y → Ct N S R M} (p : XL F ds m te dy rs D.ex K) (hn : is.length = n) (hs : n ≤ sizeLine) (hr : ∀ y, (rs y).length = is.length) (hi : ∀ y, ∀ i ∈ is, i < (dy y).length) (q : ∀ y, K y → TS F (setAll (dy y) is (rs y)) rest (k y) D) : TS F ds (mSeq (mAsg (mFn gTup m) (tTupT n (tNames is))) rest) (te.bindC k) D := fun s h w => by
  have := p s h w
  rw [ap_seq]
  have e0 : mAsg (mFn gTup m) (tTupT n (tNames is)) s h = ((mFn gTup m s h).toS s fun a h1 => match tTupT n (tNames is) a s h1 with
    | some s1 => .nx s1 h1
    | none => .stk) := rfl
  rw [e0, ap_fn]
  cases te with
  | stk => trivial
  | exc c m => obtain ⟨h', e1, w2⟩ := this; rw [e1]; exact ⟨s, h', rfl, w2⟩
  | ok y =>
    obtain ⟨kk, vs, h', e1, l1, l2, w2⟩ := this
    obtain ⟨s', e3, w3⟩ := names_go is (rs y) vs (dy y) s l2 l1 (hr y) (hi y) w2
    have lv : vs.length = n := by rw [l1, hr, hn]
    rw [e1, bind_ok]
    have eg : gTup vs h' = some (.tup vs) := if_pos (by omega)
    rw [eg]
    show PostC F D (k y) (Ss.then (match tTupT n (tNames is) (.tup vs) s h' with
      | some s1 => .nx s1 h'
      | none => .stk) rest)
    rw [ap_tup, if_pos lv, e3, then_nx]
    exact q y kk _ _ w3
end
end S9
end
section
set_option Elab.async false
set_option linter.all false
set_option maxRecDepth 100000
set_option maxHeartbeats 4000000
namespace S9
open PySem PySem.Spec PyProof.Rows L2 S3
noncomputable section
abbrev TI : Dt Int := inferInstance
abbrev TS_ : Dt Str := inferInstance
abbrev TB : Dt Bool := inferInstance
abbrev TP {α β : Type} (d : Dt α) (e : Dt β) : Dt (α × β) := @instDtProd _ _ d e
theorem eqv_tuple {as bs : List PyData} : PyData.eqv (.tuple as) (.tuple bs) = PyData.eqvAll as bs := by rw [PyData.eqv]
theorem eqv_list {as bs : List PyData} : PyData.eqv (.list as) (.list bs) = PyData.eqvAll as bs := by rw [PyData.eqv]
abbrev TL {α : Type} (d : Dt α) : Dt (List α) := ⟨fun L => .lst (L.map d.enc), d.dep + 1, fun L => by simp [canon, @encs_canon _ d], fun L => by simp [py, PyData.plain, @encs_plain _ d], fun L => by have := @encs_depth _ d L; simp [py, PyData.depth]; omega, fun L M => by
    show PyData.eqv (.list (pys (L.map d.enc))) (.list (pys (M.map d.enc))) = true ↔ _
    rw [eqv_list]; exact @encs_eqv _ d L M, fun _ _ => rfl⟩
abbrev TT {α : Type} (d : Dt α) : Dt (List α) := ⟨fun L => .tup (L.map d.enc), d.dep + 1, fun L => by simp [canon, @encs_canon _ d], fun L => by simp [py, PyData.plain, @encs_plain _ d], fun L => by have := @encs_depth _ d L; simp [py, PyData.depth]; omega, fun L M => by
    show PyData.eqv (.tuple (pys (L.map d.enc))) (.tuple (pys (M.map d.enc))) = true ↔ _
    rw [eqv_tuple]; exact @encs_eqv _ d L M, fun _ _ => rfl⟩
abbrev OI : DtO Int := inferInstance
abbrev OP {α β : Type} [DecidableEq α] (d : DtO α) (e : DtO β) : DtO (α × β) := @instDtOProd _ _ d e _
section
variable {τ : Type} {h : AH}
theorem op_eq (d : Dt τ) [DecidableEq τ] (x y : τ) (hd : d.dep ≤ 60 := by decide) : ∀ h, gEq false (d.enc x) (d.enc y) h = some (.bl (decide (x = y))) := fun h => @gEq_enc h τ d _ false x y hd
theorem op_ne (d : Dt τ) [DecidableEq τ] (x y : τ) (hd : d.dep ≤ 60 := by decide) : ∀ h, gEq true (d.enc x) (d.enc y) h = some (.bl (!decide (x = y))) := fun h => @gEq_enc h τ d _ true x y hd
theorem op_eqV (d : Dt τ) [DecidableEq τ] (neg : Bool) (x y : τ) {V1 V2 : AH → AV → Prop} (h1 : IsPy V1 (py (d.enc x))) (h2 : IsPy V2 (py (d.enc y))) (hd : d.dep ≤ 60 := by decide) : ∀ h a b, V1 h a → V2 h b → gEq neg a b h = some (.bl (if neg = true then !decide (x = y) else decide (x = y))) := fun h a b v1 v2 => by
  unfold gEq
  rw [h1 h a v1, h2 h b v2, @eqv_dec τ d]
  refine if_pos ?_
  have h1 := d.dp x
  unfold okD
  rw [d.pl, d.pl]
  simp
  omega
theorem py_e (d : Dt τ) {x : τ} : IsPy (VE (d.enc x)) (py (d.enc x)) := fun h v e => by
  have e : v = d.enc x := e
  rw [e]; exact d.nref x h
theorem py_o (d : Dt τ) {L : List τ} : IsPy (VO (.lst (L.map d.enc))) (py ((TL d).enc L)) := py_lstO
def APl (a : AV) : Prop := (py a).plain = true ∧ (py a).depth ≤ 60 ∧ ∀ h, pyv h a = py a
theorem apl_of (d : Dt τ) {x : τ} (hd : d.dep ≤ 60 := by decide) : APl (d.enc x) := ⟨d.pl x, Nat.le_trans (d.dp x) hd, d.nref x⟩
@[simp] theorem apl_non : APl .non := ⟨by simp [py, PyData.plain], by simp [py, PyData.depth], fun _ => rfl⟩
@[simp] theorem apl_int {i : Int} : APl (.int i) := apl_of TI
@[simp] theorem apl_str {i : Str} : APl (.str i) := apl_of TS_
@[simp] theorem apl_bl {i : Bool} : APl (.bl i) := apl_of TB
/-- is None -/
def isNon : AV → Bool
  | .non => true
  | _ => false
@[simp] theorem isNon_non : isNon .non = true := rfl
@[simp] theorem isNon_int {i : Int} : isNon (.int i) = false := rfl
@[simp] theorem isNon_str {i : Str} : isNon (.str i) = false := rfl
@[simp] theorem isNon_bl {i : Bool} : isNon (.bl i) = false := rfl
@[simp] theorem isNon_tup {i : List AV} : isNon (.tup i) = false := rfl
def MulOk (i j : Int) : Prop := (-1000000000000 ≤ i ∧ i ≤ 1000000000000) ∨ (-1000000000000 ≤ j ∧ j ≤ 1000000000000)
theorem op_mul {i j : Int} (c : MulOk i j) : ∀ h, gMul (.int i) (.int j) h = some (.int (i * j)) := fun h => gMul_int (cMul_of c)
theorem op_div {i j : Int} (c : 0 < j ∧ j < 1073741824) : ∀ h, gDiv (.int i) (.int j) h = some (.int (i / j)) := fun h => gDiv_int ⟨c.1, c.2⟩
theorem op_mod {i j : Int} (c : 0 < j) : ∀ h, gMod (.int i) (.int j) h = some (.int (i % j)) := fun h => gMod_int c
def RgOk (i : Int) : Prop := -1000000000 ≤ i ∧ i ≤ 1000000000
theorem rg_okN {i : Int} (g : RgOk i) : okN i := okN_ok g.1 g.2
def rgT (i j : Int) : List Int := (List.range (j - i).toNat).map fun (k : Nat) => i + k
theorem rgT_up {i j : Int} : upL i 1 (j - i).toNat = (rgT i j).map AV.int := by
  unfold rgT upL
  rw [List.map_map]
  refine List.map_congr_left fun k _ => ?_
  simp
theorem rgT_up0 {j : Int} : upL 0 1 j.toNat = (rgT 0 j).map AV.int := by
  have := rgT_up (i := 0) (j := j)
  rw [Int.sub_zero] at this
  exact this
theorem rg3_ok {i j c : Int} (hc : c ≠ 0) (h1 : RgOk i) (h2 : RgOk j) (h3 : RgOk c) : RgC i j c (rgN i j c) := rgC_ok hc (by have := h3.1; have := h3.2; omega) (by have := h1.1; have := h1.2; omega) (by have := h2.1; have := h2.2; omega)
section
variable {F : Fr} {ds : List SD}
theorem pi_range1 {m : MA} {j : Int} (p : PA F ds m [.int j]) (g : RgOk j) : PI F ds (mRg1 m) ((rgT 0 j).map AV.int) := pi_eq rgT_up0 (pi_rg1 p (rg_okN g))
end
def ixT [Inhabited τ] (L : List τ) (i : Int) : τ := (atI L i).getD default
def InR (L : List τ) (i : Int) : Prop := -(L.length : Int) ≤ i ∧ i < L.length
theorem atI_map {β : Type} (e : τ → β) (L : List τ) (i : Int) : atI (L.map e) i = (atI L i).map e := by
  unfold atI
  rw [List.length_map]
  cases ixN L.length i with
  | none => rfl
  | some j => simp
theorem atI_ix [Inhabited τ] {L : List τ} {i : Int} (g : InR L i) : atI L i = some (ixT L i) := by
  unfold ixT
  have : (atI L i).isSome = true := by
    unfold atI ixN
    have h1 := g.1
    have h2 := g.2
    by_cases c : 0 ≤ i
    · rw [if_pos c, if_pos h2]
      simp only [Option.bind_some]
      rw [List.getElem?_eq_getElem (by omega)]; rfl
    · rw [if_neg c, if_pos h1]
      simp only [Option.bind_some]
      rw [List.getElem?_eq_getElem (by omega)]; rfl
  cases k : atI L i with
  | none => rw [k] at this; cases this
  | some x => rfl
theorem op_ixL [Inhabited τ] {E : τ → AV} {L : List τ} {i : Int} (g : InR L i) : ∀ h, gIx (.lst (L.map E)) (.int i) h = some (E (ixT L i)) := fun h => by rw [S3.ix_lst, atI_map, atI_ix g]; rfl
theorem op_ixT [Inhabited τ] {E : τ → AV} {L : List τ} {i : Int} (g : InR L i) : ∀ h, gIx (.tup (L.map E)) (.int i) h = some (E (ixT L i)) := fun h => by rw [S3.ix_tup, atI_map, atI_ix g]; rfl
theorem op_ixV [Inhabited τ] {E : τ → AV} {L : List τ} {i : Int} {V : AH → AV → Prop} (v : V = VO (.lst (L.map E))) (g : InR L i) : ∀ h x y, V h x → VE (.int i) h y → gIx x y h = some (E (ixT L i)) := fun h x y vx e => by
  subst v
  obtain ⟨b, rfl, eb⟩ := vx
  have e : y = .int i := e
  subst e
  rw [ix_ref eb, atI_map, atI_ix g]; rfl
theorem op_fst {a : AV} {r : List AV} : ∀ h, gIx (.tup (a :: r)) (.int 0) h = some a := fun h => by rw [S3.ix_tup, atI_0]
def cutT (L : List τ) (lo hi : Option Int) : List τ := (L.drop (HT.sIx L.length 0 lo)).take (HT.sIx L.length L.length hi - HT.sIx L.length 0 lo)
theorem cutA_map {E : τ → AV} {L : List τ} {lo hi : Option Int} : cutA (L.map E) lo hi = (cutT L lo hi).map E := by
  unfold cutA cutT
  rw [List.length_map, List.map_take, List.map_drop]
theorem op_slT {E : τ → AV} {L : List τ} {lo hi : Option Int} : ∀ h, gSl (.tup (L.map E)) lo hi h = some (.tup ((cutT L lo hi).map E)) := fun h => by rw [S3.sl_tup, cutA_map]
theorem cutT_toI {L : List τ} {i : Int} (hi : 0 ≤ i) : cutT L none (some i) = L.take i.toNat := by
  unfold cutT HT.sIx
  simp only [if_neg (show ¬ i < 0 by omega), List.drop_zero, Nat.sub_zero]
  by_cases hl : i.toNat ≤ L.length
  · rw [Nat.min_eq_left hl]
  · rw [Nat.min_eq_right (by omega), List.take_length, List.take_of_length_le (by omega)]
theorem cutT_fromI {L : List τ} {i : Int} (hi : 0 ≤ i) : cutT L (some i) none = L.drop i.toNat := by
  unfold cutT HT.sIx
  simp only [if_neg (show ¬ i < 0 by omega)]
  rw [List.take_of_length_le (by simp)]
  by_cases hl : i.toNat ≤ L.length
  · rw [Nat.min_eq_left hl]
  · rw [Nat.min_eq_right (by omega), List.drop_length, List.drop_eq_nil_of_le (by omega)]
@[simp] theorem cutT_init {L : List τ} : cutT L none (some (-1)) = L.dropLast := by
  unfold cutT HT.sIx
  simp only [show (-1 : Int) < 0 from by omega, if_true, List.drop_zero, Nat.sub_zero]
  rw [List.dropLast_eq_take]
  congr 1
  omega
@[simp] theorem cutT_to {L : List τ} {k : Nat} : cutT L none (some (k : Int)) = L.take k := by
  rw [cutT_toI (by omega)]; rfl
@[simp] theorem cutT_from {L : List τ} {k : Nat} : cutT L (some (k : Int)) none = L.drop k := by
  rw [cutT_fromI (by omega)]; rfl
@[simp] theorem cutT_all {L : List τ} : cutT L none none = L := by
  unfold cutT HT.sIx
  simp
def lenT (L : List τ) : Int := (L.length : Nat)
theorem op_len {V : AH → AV → Prop} {E : τ → AV} {L : List τ} (sq : IsSq V (L.map E)) (hs : ∀ h v, V h v → ∀ x, v ≠ .str x) : ∀ h v, V h v → gLen [v] h = some (.int (lenT L)) := fun h v hv => by
  have e := sq h v hv
  have : gLen [v] h = match vSq h v with
    | some xs => some (.int (xs.length : Nat))
    | none => none := by
    cases v with
    | str x => exact absurd rfl (hs h _ hv x)
    | _ => rfl
  rw [this, e]
  show some (AV.int ((L.map E).length : Nat)) = _
  rw [List.length_map]; rfl
theorem ns_lst {xs : List AV} : ∀ h v, VE (.lst xs) h v → ∀ x, v ≠ .str x := fun h v e x => by
  have e : v = .lst xs := e
  rw [e]; exact fun z => nomatch z
theorem ns_tup {xs : List AV} : ∀ h v, VE (.tup xs) h v → ∀ x, v ≠ .str x := fun h v e x => by
  have e : v = .tup xs := e
  rw [e]; exact fun z => nomatch z
theorem op_tuple {V : AH → AV → Prop} {xs : List AV} (sq : IsSq V xs) (hr : ∀ h v, V h v → vT v = none ∨ v = .tup xs) : ∀ h v, V h v → gTuple [v] h = some (.tup xs) := fun h v hv => by
  have e := sq h v hv
  rcases hr h v hv with k | k
  · unfold vSq at e
    rw [k] at e
    show (match vT v with
      | some _ => some v
      | none => match vLR h v with
        | some xs => some (AV.tup xs)
        | none => none) = _
    rw [k]
    simp only at e ⊢
    rw [e]
  · rw [k]; rfl
theorem tr_lst {xs : List AV} : ∀ h v, VE (.lst xs) h v → vT v = none ∨ v = .tup xs := fun h v e => by
  have e : v = .lst xs := e
  rw [e]; exact .inl rfl
def LsOk (n : Nat) : Prop := n ≤ 16000000
theorem op_catL {E : τ → AV} {L M : List τ} (g : LsOk (L.length + M.length)) : ∀ h, gAdd (.lst (L.map E)) (.lst (M.map E)) h = some (.lst ((L ++ M).map E)) := fun h => by
  rw [addL_ok (by unfold sizeLine; unfold LsOk at g; simp; omega), List.map_append]
theorem op_catT {E : τ → AV} {L M : List τ} (g : LsOk (L.length + M.length)) : ∀ h, gAdd (.tup (L.map E)) (.tup (M.map E)) h = some (.tup ((L ++ M).map E)) := fun h => by
  rw [addT_ok (by unfold sizeLine; unfold LsOk at g; simp; omega), List.map_append]
theorem ls_size {n : Nat} (g : LsOk n) : n ≤ sizeLine := by unfold LsOk at g; unfold sizeLine; omega
theorem ls_lt {n : Nat} (g : LsOk n) : n < sizeLine := by unfold LsOk at g; unfold sizeLine; omega
def leT [d : DtO τ] (x y : τ) : Bool := !d.lt y x
def sortT [DtO τ] (L : List τ) : List τ := L.mergeSort leT
theorem sortA_map [d : DtO τ] (L : List τ) : sortA (L.map d.enc) = (sortT L).map d.enc := by
  unfold sortA sortT
  refine (List.map_mergeSort fun a _ b _ => ?_).symm
  unfold leT PySem.W.dataLe PySem.W.sortLe
  rw [← d.ltok]; rfl
theorem op_sortedL [d : DtO τ] {V : AH → AV → Prop} {L : List τ} (sq : IsSq V (L.map d.enc)) (hd : d.dep ≤ 60) (hb : sortB (L.map d.enc) = true) : ∀ h v, V h v → gSorted [v] h = some (.lst ((sortT L).map d.enc)) := fun h v hv => by
  show (match vSq h v with
    | some xs => if okItems xs = true ∧ sortB xs = true then some (AV.lst (sortA xs)) else none
    | none => none) = _
  rw [sq h v hv]
  simp only
  rw [if_pos ⟨@okItems_enc τ d L hd, hb⟩, sortA_map]
theorem sb_tup {L : List τ} {a : τ → AV} {r : τ → List AV} : sortB (L.map fun x => AV.tup (a x :: r x)) = true := by
  unfold sortB
  rw [Bool.or_eq_true]
  left
  simp [List.all_eq_true]
theorem any_eqv (d : Dt τ) [DecidableEq τ] (x : τ) : ∀ L : List τ, ((pys (L.map d.enc)).any fun z => PyData.eqv z (py (d.enc x))) = decide (x ∈ L)
  | [] => by simp [pys]
  | y :: L => by
    rw [List.map_cons]
    show (PyData.eqv (py (d.enc y)) (py (d.enc x)) || (pys (L.map d.enc)).any _) = _
    rw [any_eqv d x L, @eqv_dec τ d]
    by_cases e : y = x
    · simp [e]
    · simp [e, Ne.symm e]
theorem op_inV (d : Dt τ) [DecidableEq τ] (neg : Bool) {x : τ} {L : List τ} {V : AH → AV → Prop} (hd : d.dep ≤ 59) (hv : ∀ h v, V h v → (pyv h v = .list (pys (L.map d.enc)) ∨ pyv h v = .tuple (pys (L.map d.enc))) ∧ dGet h v (d.enc x) = none ∧ ∀ z, v ≠ .str z) : ∀ h a v, VE (d.enc x) h a → V h v → gIn neg a v h = some (.bl (if neg = true then !decide (x ∈ L) else decide (x ∈ L))) := fun h a v e hv' => by
  have e : a = d.enc x := e
  subst e
  obtain ⟨k, k2, k3⟩ := hv h v hv'
  have e1 : gIn neg (d.enc x) v h = match pyv h v with
      | .list ds => if okD (pyv h (d.enc x)) (.list ds) = true then some (.bl (if neg then !ds.any (fun z => PyData.eqv z (pyv h (d.enc x))) else ds.any fun z => PyData.eqv z (pyv h (d.enc x)))) else none
      | .tuple ds => if okD (pyv h (d.enc x)) (.tuple ds) = true then some (.bl (if neg then !ds.any (fun z => PyData.eqv z (pyv h (d.enc x))) else ds.any fun z => PyData.eqv z (pyv h (d.enc x)))) else none
      | _ => none := by
    unfold gIn
    rw [k2]
    simp only
    cases v with
    | str z => exact absurd rfl (k3 z)
    | _ => first | rfl | (cases d.enc x <;> rfl)
  have dp := @encs_depth τ d L
  have dx := d.dp x
  have pl := @encs_plain τ d L
  have plx := d.pl x
  rcases k with k | k
  · rw [e1, k]
    simp only [d.nref x h]
    rw [if_pos, any_eqv d x L]
    unfold okD
    rw [plx]
    simp [PyData.plain, pl, Nat.le_trans (Nat.min_le_left _ _) (show (py (d.enc x)).depth ≤ 60 by omega)]
  · rw [e1, k]
    simp only [d.nref x h]
    rw [if_pos, any_eqv d x L]
    unfold okD
    rw [plx]
    simp [PyData.plain, pl, Nat.le_trans (Nat.min_le_left _ _) (show (py (d.enc x)).depth ≤ 60 by omega)]
end
end
end S9
end
section
set_option Elab.async false
set_option linter.all false
set_option maxRecDepth 100000
set_option maxHeartbeats 4000000
namespace S9
open PySem PySem.Spec PyProof.Rows L2 S3
noncomputable section
abbrev eN : Unit → AV := fun _ => AV.non
mutual
theorem nr_can : ∀ (a : AV), canon a = true → S3.LV 0 a
  | .non, _ => trivial
  | .bl _, _ => trivial
  | .int _, _ => trivial
  | .str _, _ => trivial
  | .tup xs, h => nrs_can xs h
  | .lst xs, h => nrs_can xs h
theorem nrs_can : ∀ (xs : List AV), canons xs = true → S3.LVs 0 xs
  | [], _ => trivial
  | a :: r, h => by
    have h : (canon a && canons r) = true := h
    rw [Bool.and_eq_true] at h
    exact ⟨nr_can a h.1, nrs_can r h.2⟩
end
theorem nr_of {τ : Type} {d : Dt τ} (x : τ) : NR (d.enc x) := nr_can _ (d.can x)
theorem nro_of {τ : Type} (d : Dt τ) (L : List τ) : NRO (.lst (L.map d.enc)) := nrs_can _ (@encs_canon τ d L)
section
variable {F : Fr} {ds : List SD} {M M' Y Z N S R X σ τ α α1 α2 α3 : Type} {dm : M → List SD} {D : Ds N S R M}
def lastT [Inhabited τ] (L : List τ) : τ := L.getLast?.getD default
theorem xe_appendT {e a : ME} {E : τ → AV} {L : List τ} {x : τ} {up : LO → List SD} (f : Foc F ds e (.lst (L.map E)) up) (p : PE F ds a (E x)) (n : NRO (.lst ((L ++ [x]).map E))) (hl : L.length < sizeLine) : XE F ds (mBM tyL gAppend e (mCons a mNil)) (.ok () : ER M Unit) (fun _ => up (.lst ((L ++ [x]).map E))) (fun _ => .val .non) dm yes := by
  have e0 : (L ++ [x]).map E = L.map E ++ [E x] := by rw [List.map_append]; rfl
  rw [e0] at n ⊢
  exact xe_append f p n (by rw [List.length_map]; exact hl)
theorem xe_popT [Inhabited τ] {e : ME} {E : τ → AV} {L : List τ} {up : LO → List SD} (f : Foc F ds e (.lst (L.map E)) up) (n : NRO (.lst (L.dropLast.map E))) (g : L ≠ []) : XE F ds (mBM tyL gPop e mNil) (.ok () : ER M Unit) (fun _ => up (.lst (L.dropLast.map E))) (fun _ => .val (E (lastT L))) dm yes := by
  have e0 : L.map E = L.dropLast.map E ++ [E (lastT L)] := by
    have h1 := List.dropLast_concat_getLast g
    have h2 : lastT L = L.getLast g := by unfold lastT; rw [List.getLast?_eq_some_getLast g]; rfl
    rw [h2]
    conv => lhs; rw [← h1]
    rw [List.map_append]; rfl
  rw [e0] at f
  exact xe_pop f n
def setT (L : List τ) (i : Int) (x : τ) : List τ := match ixN L.length i with
  | some j => L.set j x
  | none => L
theorem ixN_in {L : List τ} {i : Int} (g : InR L i) : ∃ j, ixN L.length i = some j := by
  unfold ixN
  have h1 := g.1
  have h2 := g.2
  by_cases c : 0 ≤ i
  · rw [if_pos c, if_pos h2]; exact ⟨_, rfl⟩
  · rw [if_neg c, if_pos h1]; exact ⟨_, rfl⟩
theorem op_setL {E : τ → AV} {L : List τ} {i : Int} {x : τ} (g : InR L i) : ∀ h b, h[b]? = some (LO.ao (.lst (L.map E))) → gSet (.ref b) (.int i) (E x) h = some (h.set b (LO.ao (.lst ((setT L i x).map E)))) := fun h b eb => by
  obtain ⟨j, ej⟩ := ixN_in g
  have eb : h[b]? = some (.lst (L.map E)) := eb
  rw [set_ref eb (j := j) (by rw [List.length_map]; exact ej)]
  unfold setT
  rw [ej]
  simp only [List.map_set, LO.ao]
end
section
variable {τ : Type} {h : AH}
theorem op_eqVf (d : Dt τ) [DecidableEq τ] (x y : τ) {V1 V2 : AH → AV → Prop} (h1 : IsPy V1 (py (d.enc x))) (h2 : IsPy V2 (py (d.enc y))) (hd : d.dep ≤ 60 := by decide) : ∀ h a b, V1 h a → V2 h b → gEq false a b h = some (.bl (decide (x = y))) := op_eqV d false x y h1 h2 hd
theorem op_int (d : Dt τ) [DecidableEq τ] {x : τ} {L : List τ} {v : AV} (hd : d.dep ≤ 59) (hv : ∀ h w, VE v h w → (pyv h w = .list (pys (L.map d.enc)) ∨ pyv h w = .tuple (pys (L.map d.enc))) ∧ dGet h w (d.enc x) = none ∧ ∀ z, w ≠ .str z) : ∀ h, gIn true (d.enc x) v h = some (.bl (!decide (x ∈ L))) := fun h => op_inV d true hd hv h _ _ rfl rfl
theorem fin_any {α : Type} {L : List α} {g : α → Bool} : gAny ((L.map g).map AV.bl) = some (.bl (L.any g)) := by
  unfold gAny
  rw [List.map_map]
  have := bls_map (f := g) (L := L)
  have e : (L.map (AV.bl ∘ g)) = L.map fun x => AV.bl (g x) := rfl
  rw [e, this]
  simp
theorem fin_sum {α : Type} {L : List α} {g : α → Int} : gSumI ((L.map g).map AV.int) = some (.int (L.map g).sum) := by
  unfold gSumI
  rw [List.map_map]
  have := ints_map (f := g) (L := L)
  have e : (L.map (AV.int ∘ g)) = L.map fun x => AV.int (g x) := rfl
  rw [e, this]
  simp
section
variable {F : Fr} {ds : List SD} {τ' : Type}
end
end
end
end S9
end
section
set_option Elab.async false
set_option linter.all false
set_option maxRecDepth 100000
set_option maxHeartbeats 4000000
namespace S9
open PySem PySem.Spec PyProof.Rows L2 S3
noncomputable section
abbrev kI : Int → Key := Sum.inl
abbrev kS : Str → Key := Sum.inr
structure KD (κ : Type) where
  kE : κ → Key
  e : κ → AV
  inj : ∀ x y, kE x = kE y → x = y
  ko : ∀ x, keyOf (e x) = some (kE x)
  ka : ∀ x, keyA (kE x) = e x
  can : ∀ x, canon (e x) = true
abbrev kdI : KD Int := ⟨kI, .int, fun _ _ h => Sum.inl.inj h, fun _ => rfl, fun _ => rfl, fun _ => rfl⟩
abbrev kdS : KD Str := ⟨kS, .str, fun _ _ h => Sum.inr.inj h, fun _ => rfl, fun _ => rfl, fun _ => rfl⟩
section
variable {κ τ : Type} [DecidableEq κ]
def dget : List (κ × τ) → κ → Option τ
  | [], _ => none
  | (k, a) :: r, j => if k = j then some a else dget r j
def dput (L : List (κ × τ)) (k : κ) (v : τ) : List (κ × τ) := if (L.any fun p => decide (p.1 = k)) = true then L.map (fun p => if p.1 = k then (p.1, v) else p) else L ++ [(k, v)]
def dhas (L : List (κ × τ)) (k : κ) : Bool := (dget L k).isSome
variable (kd : KD κ) {E : τ → AV}
abbrev enK (kd : KD κ) (E : τ → AV) (L : List (κ × τ)) : List (Key × AV) := L.map fun p => (kd.kE p.1, E p.2)
theorem kget_en : ∀ (L : List (κ × τ)) (k : κ), kget (enK kd E L) (kd.kE k) = (dget L k).map E
  | [], k => rfl
  | (j, a) :: r, k => by
    show (if kd.kE j = kd.kE k then some (E a) else kget (enK kd E r) (kd.kE k)) = (if j = k then some a else dget r k).map E
    by_cases c : j = k
    · rw [if_pos (by rw [c]), if_pos c]; rfl
    · rw [if_neg fun z => c (kd.inj _ _ z), if_neg c, kget_en r k]
theorem kput_en (L : List (κ × τ)) (k : κ) (v : τ) : kput (enK kd E L) (kd.kE k) (E v) = enK kd E (dput L k v) := by
  have e1 : ((enK kd E L).any fun kv => decide (kv.1 = kd.kE k)) = L.any fun p => decide (p.1 = k) := by
    rw [List.any_map]
    congr 1
    funext p
    show decide (kd.kE p.1 = kd.kE k) = decide (p.1 = k)
    by_cases c : p.1 = k
    · rw [c]; simp
    · rw [decide_eq_false c, decide_eq_false fun z => c (kd.inj _ _ z)]
  unfold kput dput
  rw [e1]
  by_cases c : (L.any fun p => decide (p.1 = k)) = true
  · rw [if_pos c, if_pos c]
    simp only [enK, List.map_map]
    refine List.map_congr_left fun p _ => ?_
    show (if kd.kE p.1 = kd.kE k then (kd.kE p.1, E v) else (kd.kE p.1, E p.2)) = _
    by_cases c : p.1 = k
    · simp [c]
    · rw [if_neg fun z => c (kd.inj _ _ z)]; simp [c]
  · rw [if_neg c, if_neg c]; simp [enK]
theorem lks_can {d : Dt τ} : ∀ L : List (κ × τ), S3.LKs 0 (enK kd d.enc L)
  | [] => trivial
  | p :: L => ⟨nr_of p.2, lks_can L⟩
theorem nroK (d : Dt τ) (L : List (κ × τ)) : NRO (.dK (enK kd d.enc L)) := lks_can kd L
section
variable {L : List (κ × τ)} {k : κ} {V V1 V2 : AH → AV → Prop} {h : AH}
theorem dGet_en (hv : IsD V (.k (enK kd E L))) {v : AV} (w : V h v) : dGet h v (kd.e k) = some ((dget L k).map E) := by
  unfold dGet
  rw [hv h v w]
  simp only [kd.ko, kget_en]
theorem op_inDf (hv : IsD V (.k (enK kd E L))) : ∀ h a v, VE (kd.e k) h a → V h v → gIn false a v h = some (.bl (dhas L k)) := fun h a v ea w => by
  have ea : a = kd.e k := ea
  subst ea
  unfold gIn
  rw [dGet_en kd hv w]
  simp [dhas]
variable {F : Fr} {ds : List SD} {M : Type} {dm : M → List SD}
theorem op_setD {x : τ} (g : LsOk L.length) : ∀ h b, h[b]? = some (LO.ao (.dK (enK kd E L))) → gSet (.ref b) (kd.e k) (E x) h = some (h.set b (LO.ao (.dK (enK kd E (dput L k x))))) := fun h b eb => by
  have eb : h[b]? = some (.dK (enK kd E L)) := eb
  unfold gSet
  simp only [eb, kd.ko]
  rw [if_pos (by rw [List.length_map]; exact ls_lt g), kput_en]; rfl
def PP (F : Fr) (ds : List SD) (m : MP) (L : List (Key × AV)) : Prop := ∀ s h, EnvP F ds s h → m s h = .ok L h
theorem dVals_en (hv : IsD V (.k (enK kd E L))) {v : AV} (w : V h v) : dVals h v = some ((L.map Prod.snd).map E) := by
  unfold dVals
  rw [hv h v w]
  simp only [enK, List.map_map]
  rfl
theorem pe_sumVals {a : ME} {L : List (κ × Int)} (p : PV F ds a V) (hv : IsD V (.k (enK kd AV.int L))) : PE F ds (mOfVals fSum a) (.int (L.map Prod.snd).sum) := fun s h w => by
  obtain ⟨v, e1, w1⟩ := p s h w
  show (a s h).bind _ = _
  rw [e1, bind_ok]
  simp only [dVals_en kd hv w1]
  have : fSum ((L.map Prod.snd).map AV.int) = some (.int (L.map Prod.snd).sum) := by
    have := gSum_ints (h := h) (L := L.map Prod.snd) (a := .lst ((L.map Prod.snd).map AV.int)) rfl
    exact this
  rw [this]
end
end
end
end S9
namespace S9
open PySem PySem.Spec PyProof.Rows L2 S3
section
variable {F : Fr} {ds : List SD}
theorem tg_rdt {n : Nat} {u : Gts} {xs : List AV} {d2 : List SD} {is : List Nat} (p : TGs F ds u xs d2 is) (hn : xs.length = n) : TG F ds (tTupT n u) (.rdt xs) d2 is := fun s h w => by
  obtain ⟨s2, e2, w2⟩ := p s h w
  refine ⟨s2, ?_, w2⟩
  show (if xs.length = n then u xs s h else none) = _
  rw [if_pos hn, e2]
theorem pi_rdt {e : ME} {xs : List AV} (p : PE F ds e (.rdt xs)) : PI F ds (mSqT e) xs := fun s h w => ⟨fun _ => some xs, by rw [ap_sqT, p s h w, bind_ok]; rfl, fun _ => rfl⟩
end
end S9
namespace S9
open PySem PySem.Spec PyProof.Rows L2 S3
section
variable {F : Fr} {ds : List SD}
end
end S9
namespace S9
open PySem PySem.Spec PyProof.Rows L2 S3
section
variable {M Y Z : Type} {F : Fr} {ds : List SD} {dm : M → List SD}
end
end S9
end
section
set_option Elab.async false
set_option linter.all false
set_option maxRecDepth 100000
set_option maxHeartbeats 4000000
namespace S9
open PySem PySem.Spec PyProof.Rows L2 S3
section
variable {M Y Z : Type} {F : Fr} {ds : List SD} {dm : M → List SD}
end
end S9
namespace S9
open PySem PySem.Spec PyProof.Rows L2 S3
section
variable {M Y Z N S R : Type} {F : Fr} {ds : List SD} {dm : M → List SD} {D : Ds N S R M}
end
end S9
end
section
set_option Elab.async false
set_option linter.all false
set_option maxRecDepth 100000
set_option maxHeartbeats 4000000
namespace S9
open PySem PySem.Spec PyProof.Rows L2 S3
section
variable {h : AH}
end
section
variable {F : Fr} {ds : List SD} {N S R M M' Y : Type} {D : Ds N S R M}
def ER.tryC (t : ER M' Y) (c : Str) (kb : M' → Ct N S R M) (k : Y → Ct N S R M) : Ct N S R M := match t with
  | .ok y => k y
  | .exc d m => if d = c then kb m else .stk
  | .stk => .stk
@[simp] theorem er_try_ok (y : Y) (c : Str) (kb : M' → Ct N S R M) (k : Y → Ct N S R M) : (ER.ok y : ER M' Y).tryC c kb k = k y := rfl
@[simp] theorem er_try_exc (d : Str) (m : M') (c : Str) (kb : M' → Ct N S R M) (k : Y → Ct N S R M) : (ER.exc d m : ER M' Y).tryC c kb k = if d = c then kb m else .stk := rfl
end
section
variable {F : Fr} {ds : List SD} {N S R M : Type} {D : Ds N S R M} {t : Ct N S R M}
end
section
variable {M Y : Type} {F : Fr} {ds : List SD} {dm : M → List SD}
end
section
variable {M M' Y Z : Type} {F : Fr} {ds : List SD} {dm : M → List SD}
end
end S9
end
section
set_option Elab.async false
set_option linter.all false
set_option maxRecDepth 100000
set_option maxHeartbeats 4000000
namespace S9
open PySem PySem.Spec PyProof.Rows L2 S3
section
variable {X σ S R M τ : Type}
@[simp] theorem lenT_nil : lenT ([] : List τ) = 0 := rfl
@[simp] theorem lenT_cons {x : τ} {L : List τ} : lenT (x :: L) = lenT L + 1 := by unfold lenT; simp
@[simp] theorem lenT_app {L K : List τ} : lenT (L ++ K) = lenT L + lenT K := by unfold lenT; simp
@[simp] theorem lenT_map {β : Type} {f : τ → β} {L : List τ} : lenT (L.map f) = lenT L := by unfold lenT; simp
variable [Inhabited τ]
theorem ixT_nat {L : List τ} {k : Nat} (h : k < L.length) : ixT L (k : Int) = L[k] := by
  unfold ixT atI ixN
  rw [if_pos (by omega), if_pos (by omega)]
  simp [h]
@[simp] theorem ixT_0 {a : τ} {L : List τ} : ixT (a :: L) 0 = a := by
  have := ixT_nat (L := a :: L) (k := 0) (by simp)
  exact this
@[simp] theorem ixT_1 {a b : τ} {L : List τ} : ixT (a :: b :: L) 1 = b := by
  have := ixT_nat (L := a :: b :: L) (k := 1) (by simp)
  exact this
@[simp] theorem ixT_2 {a b c : τ} {L : List τ} : ixT (a :: b :: c :: L) 2 = c := by
  have := ixT_nat (L := a :: b :: c :: L) (k := 2) (by simp)
  exact this
@[simp] theorem setT_0 {a x : τ} {L : List τ} : setT (a :: L) 0 x = x :: L := by
  unfold setT ixN; simp
@[simp] theorem setT_1 {a b x : τ} {L : List τ} : setT (a :: b :: L) 1 x = a :: x :: L := by
  unfold setT ixN
  simp only [List.length_cons]
  rw [if_pos (by omega), if_pos (by omega)]; rfl
@[simp] theorem setT_2 {a b c x : τ} {L : List τ} : setT (a :: b :: c :: L) 2 x = a :: b :: x :: L := by
  unfold setT ixN
  simp only [List.length_cons]
  rw [if_pos (by omega), if_pos (by omega)]; rfl
theorem inR_3_0 {a b c : τ} : InR [a, b, c] 0 := ⟨by simp, by simp⟩
theorem inR_3_1 {a b c : τ} : InR [a, b, c] 1 := ⟨by simp, by simp⟩
theorem inR_3_2 {a b c : τ} : InR [a, b, c] 2 := ⟨by simp, by simp⟩
end
section
variable {M M' Y Z N S R : Type}
end
end S9
end
section
set_option Elab.async false
set_option linter.all false
set_option maxRecDepth 100000
set_option maxHeartbeats 4000000
namespace S9
open PySem S3
section
variable {N N' S R M M' Y Z X σ : Type}
def WE (t : ER M Y) (P : Y → Prop) (E : Str → M → Prop) : Prop := match t with
  | .ok y => P y
  | .exc c m => E c m
  | .stk => False
structure Po (N S R M : Type) where
  nx : N → Prop
  bk : S → Prop
  ct : S → Prop
  rt : R → Prop
  ex : Str → M → Prop
def WC (t : Ct N S R M) (D : Po N S R M) : Prop := match t with
  | .nx y => D.nx y
  | .bk y => D.bk y
  | .ct y => D.ct y
  | .rt z => D.rt z
  | .exc c m => D.ex c m
  | .stk => False
variable {D : Po N S R M} {P : Y → Prop} {E : Str → M → Prop}
theorem we_ok {y : Y} (h : P y) : WE (.ok y : ER M Y) P E := h
theorem we_of {t : ER M Y} {y : Y} (e : t = .ok y) (h : P y) : WE t P E := by rw [e]; exact h
theorem WE.imp {t : ER M Y} {P' : Y → Prop} {E' : Str → M → Prop} (h : WE t P E) (hp : ∀ y, P y → P' y) (hx : ∀ c m, E c m → E' c m) : WE t P' E' := by
  cases t with
  | ok y => exact hp y h
  | exc c m => exact hx c m h
  | stk => exact h
theorem we_mx {t : ER M Y} {f : M → M'} {E : Str → M' → Prop} (h : WE t P fun c m => E c (f m)) : WE (t.mx f) P E := by
  cases t <;> exact h
theorem we_bind {t : ER M Y} {k : Y → ER M Z} {P : Z → Prop} (h : WE t (fun y => WE (k y) P E) E) : WE (t.bind k) P E := by
  cases t <;> exact h
theorem we_map {t : ER M Y} {f : Y → Z} {P : Z → Prop} (h : WE t (fun y => P (f y)) E) : WE (t.map f) P E := by
  cases t <;> exact h
theorem we_chk {G : Prop} {t : ER M Y} (g : G) (h : WE t P E) : WE (chkE G t) P E := by rw [chkE_t g]; exact h
theorem WE.get {t : ER M Y} (h : WE t P fun _ _ => False) : ∃ y, t = .ok y ∧ P y := by
  cases t with
  | ok y => exact ⟨y, rfl, h⟩
  | exc c m => exact h.elim
  | stk => exact h.elim
theorem wc_chk {G : Prop} {t : Ct N S R M} (g : G) (h : WC t D) : WC (chk G t) D := by rw [chk_t g]; exact h
theorem wc_bindC {t : ER M Y} {k : Y → Ct N S R M} (h : WE t (fun y => WC (k y) D) D.ex) : WC (t.bindC k) D := by
  cases t <;> exact h
theorem WC.lawnx {t : Ct Unit Unit Bool Unit} (h : WC t ⟨fun _ => True, fun _ => False, fun _ => False, fun _ => False, fun _ _ => False⟩) : t = .nx () := by
  cases t with
  | nx y => rfl
  | _ => exact h.elim
end
end S9
end
section
set_option Elab.async false
set_option linter.all false
set_option maxRecDepth 100000
set_option maxHeartbeats 4000000
namespace S9
open PySem S3
theorem rgOk_of {i : Int} (h1 : -1000000 ≤ i) (h2 : i ≤ 1000000) : RgOk i := ⟨by omega, by omega⟩
theorem wc_eq {N S R M : Type} {D : Po N S R M} {t : Ct N S R M} {y : N} (e : t = .nx y) (h : D.nx y) : WC t D := by rw [e]; exact h
section
variable {τ : Type} [DtO τ]
end
end S9
end
section
set_option Elab.async false
set_option linter.all false
set_option maxRecDepth 100000
set_option maxHeartbeats 4000000
namespace S9
open PySem S3
section
variable {κ τ : Type} [DecidableEq κ]
end
end S9
end
section
set_option Elab.async false
set_option linter.all false
set_option maxRecDepth 100000
set_option maxHeartbeats 4000000
namespace S9
open PySem PySem.Spec PyProof.Rows L2 S3
theorem lvs_ints (n : Nat) : ∀ L : List Int, S3.LVs n (L.map AV.int)
  | [] => trivial
  | _ :: L => ⟨trivial, lvs_ints n L⟩
theorem law_run {n : Nat} {B : MS} {t : Ct Unit Unit Bool Unit} {d : List Int} {D : Ds Unit Unit Bool Unit} (T : ∀ F, TS F (.dead :: .own (.leaf (.lst (d.map AV.int))) :: List.replicate n .dead) B t D) (ht : t = .nx ()) (sc : AV) : ∃ s' h', B (some sc :: some (.ref 0) :: List.replicate n none) [.lst (d.map AV.int)] = .nx s' h' := by
  have w : EnvP ⟨[], fun _ => False⟩ (.dead :: .own (.leaf (.lst (d.map AV.int))) :: List.replicate n .dead) (some sc :: some (.ref 0) :: List.replicate n none) [.lst (d.map AV.int)] := by
    refine ⟨fun i => if i = 1 then [0] else [], ⟨by simp, fun i x e => ?_, fun i hi => ?_, ⟨?_, ?_, ?_⟩, ⟨fun i j x h1 h2 => ?_, fun i x h1 => ?_⟩⟩⟩
    · match i, e with
      | 0, e => cases e; exact ⟨some sc, rfl, rfl⟩
      | 1, e => cases e; exact ⟨some (.ref 0), rfl, 0, rfl, rfl, rfl⟩
      | i + 2, e =>
        have e : (List.replicate n SD.dead)[i]? = some x := e
        have hi := (List.getElem?_eq_some_iff.mp e).1
        rw [List.getElem?_eq_getElem hi, List.getElem_replicate] at e
        cases e
        refine ⟨none, ?_, by rw [if_neg (by omega)]; rfl⟩
        show (List.replicate n (none : Option AV))[i]? = _
        simp at hi
        rw [List.getElem?_eq_getElem (by simp; exact hi), List.getElem_replicate]
    · have : 1 < i := by simp at hi; omega
      exact if_neg (by omega)
    · intro i o e
      match i, e with
      | 0, e => cases e; exact lvs_ints _ d
      | i + 1, e => cases e
    · exact Nat.zero_le _
    · intro i hi; exact absurd hi (Nat.not_lt_zero _)
    · split at h1
      · split at h2
        · omega
        · cases h2
      · cases h1
    · exact .inr (Nat.zero_le _)
  have r := T ⟨[], fun _ => False⟩ _ _ w
  rw [ht] at r
  obtain ⟨s', h', e, _⟩ := r
  exact ⟨s', h', e⟩
end S9
end
section
set_option Elab.async false
set_option linter.all false
set_option maxRecDepth 100000
set_option maxHeartbeats 4000000
namespace S9
open PySem PySem.Spec PyProof.Rows L2 S3
section
variable {τ : Type}
variable {h : AH}
def StOk (i : Int) : Prop := -1000000000000000000 ≤ i ∧ i ≤ 1000000000000000000
def strI (i : Int) : Str := toString i
theorem gStr_int {i : Int} (g : StOk i) : ∀ h, gStr [.int i] h = some (.str (strI i)) := fun h => by
  have : i.natAbs.log2 < 1920 := by
    by_cases c : i.natAbs = 0
    · rw [c]; decide
    · rw [Nat.log2_lt c]
      have h1 := g.1
      have h2 := g.2
      have : i.natAbs ≤ 10 ^ 18 := by omega
      exact Nat.lt_of_le_of_lt this (by decide)
  show (if i.natAbs.log2 < 1920 then some (AV.str (toString i)) else none) = _
  rw [if_pos this]; rfl
end
end S9
end
section
set_option Elab.async false
set_option linter.all false
set_option maxRecDepth 100000
set_option maxHeartbeats 4000000
namespace S9
open PySem PySem.Spec PyProof.Rows L2 S3
end S9
end
section
set_option Elab.async false
set_option linter.all false
set_option maxRecDepth 100000
set_option maxHeartbeats 4000000
namespace S3
open PySem PySem.Spec PyProof.Rows L2
noncomputable section NC
section
variable {B : Bx} {X : Cx} {W : WX}
end
end NC
end S3
end
section
set_option Elab.async false
set_option linter.all false
set_option maxRecDepth 100000
set_option maxHeartbeats 4000000
namespace S3
open PySem PySem.Spec PyProof.Rows L2
noncomputable section NC
section
variable {B : Bx} {X : Cx} {W : WX}
theorem RPr.ps {ρ : List Addr} {F : Hp} {its : List AV} {kw : List (V × V)} (r : RPr B ρ F its kw) : RPs B ρ F its kw := ⟨r.1, fun i y z e => by
  have hi : i < its.length := by rw [r.1]; exact (List.getElem?_eq_some_iff.mp e).1
  obtain ⟨ka, va, x, y', e1, e2, r1, r2⟩ := r.2 i _ (List.getElem?_eq_getElem hi)
  rw [e] at e2
  cases e2
  exact ⟨_, (ka, va), List.getElem?_eq_getElem hi, by rw [e1]; rfl, r1, r2⟩⟩
end
end NC
end S3
end
section
set_option Elab.async false
set_option linter.all false
set_option maxRecDepth 100000
set_option maxHeartbeats 4000000
namespace S9
open PySem PySem.Spec PyProof.Rows L2 S3
section
variable {F : Fr} {ds : List SD} {X σ τ M Y : Type}
end
end S9
end
section
set_option Elab.async false
set_option linter.all false
set_option maxRecDepth 100000
set_option maxHeartbeats 4000000
namespace S9
open PySem PySem.Spec PyProof.Rows L2 S3
theorem law_all {n : Nat} {B : MS} {t : Ct Unit Unit Bool Unit} {d : List Int} {D : Ds Unit Unit Bool Unit} {r : Fn} {x : AV} {vs : List Nat} (hr : r [x, .int 1] [] = .ok (.lst [.ref 0]) [.lst (d.map AV.int)]) (T : ∀ F, TS F (.dead :: .own (.leaf (.lst (d.map AV.int))) :: List.replicate n .dead) B t D) (ht : t = .nx ())
    (hv : wipeA (some x :: List.replicate (n + 1) none) vs = some x :: List.replicate (n + 1) none) : ∃ h', defSem (n + 2) 1 (mSeq (mForget vs) (mSeq (mFor (mSq (mCall r (mCons (mVar 0) (mCons (mC (.int 1)) mNil)))) (tName 1) B) (mRet (mC (.bl true))))) [x] [] = .ok (.bl true) h' := by
  obtain ⟨s', h', e2⟩ := law_run (n := n) (B := B) (d := d) T ht x
  refine ⟨h', ?_⟩
  have st : mFor (mSq (mCall r (mCons (mVar 0) (mCons (mC (.int 1)) mNil)))) (tName 1) B (some x :: List.replicate (n + 1) none) [] = .nx s' h' := by
    have lp : forC (tName 1) B [.ref 0] (some x :: List.replicate (n + 1) none) [.lst (d.map AV.int)] = .nx s' h' := by
      rw [forC_cons (t := tName 1) rfl]
      show Ss.lp (B (some x :: some (.ref 0) :: List.replicate n none) [.lst (d.map .int)]) _ = _
      rw [e2]
      rfl
    have av : mVar 0 (some x :: List.replicate (n + 1) none) [] = .ok x [] := rfl
    simp only [ap_for, ap_sq, ap_call, ap_cons, ap_nil, av, bind_ok, ap_c, hr, toS_ok, vLR_lst]
    rw [forL_const (xs := [.ref 0]) fun _ => rfl]
    exact lp
  unfold defSem
  rw [if_pos (show [x].length = 1 from rfl)]
  show Ss.fin (mSeq (mForget vs) _ (some x :: List.replicate (n + 1) none) []) = _
  rw [ap_seq, ap_forget, then_nx, hv, ap_seq, st]
  rfl
end S9
end
section
set_option Elab.async false
set_option linter.all false
set_option maxRecDepth 100000
set_option maxHeartbeats 4000000
namespace S9
open PySem PySem.Spec PyProof.Rows L2 S3
section
variable {κ τ : Type} [DecidableEq κ] (kd : KD κ) {F : Fr} {ds : List SD} {V : AH → AV → Prop} {E : τ → AV} {L : List (κ × τ)}
end
end S9
end
section
set_option Elab.async false
set_option linter.all false
set_option maxRecDepth 100000
set_option maxHeartbeats 4000000
namespace MinK
open PySem PySem.W PySem.SeqAt PyProof.Rows
section
variable {prog : Program} {w : World} {A : Around} {E : Value → Shared → Prop} {s : Shared} {R : Result → Shared → Prop} {I S : Addr} {fp wr : List Addr} {n : Nat} {P : Nat → Value → Prop} {St : Nat → Heap → Prop}
mutual
theorem reads_tup {g g' : Heap} (k : ∀ b o, o.cls = .type "tuple" → g.get? b = some o → g'.get? b = some o) : ∀ (d : PyData), S3.noL d = true → ∀ (v : Value) (as : List Addr), Reads g v d as → Reads g' v d as
  | .int _, _, _, _, r => by cases r; exact .int _ _
  | .str _, _, _, _, r => by cases r; exact .str _ _
  | .bool _, _, _, _, r => by cases r; exact .bool _
  | .tuple xs, h, _, _, r => by
    cases r with
    | tuple e1 e2 e3 r => exact .tuple (k _ _ e2 e1) e2 e3 (readsAll_tup k xs (by simpa [S3.noL] using h) _ _ r)
  | .none, h, _, _, _ => by simp [S3.noL] at h
  | .list _, h, _, _, _ => by simp [S3.noL] at h
  | .dict _, h, _, _, _ => by simp [S3.noL] at h
theorem readsAll_tup {g g' : Heap} (k : ∀ b o, o.cls = .type "tuple" → g.get? b = some o → g'.get? b = some o) : ∀ (ds : List PyData), S3.noL.noLs ds = true → ∀ (vs : List Value) (as : List Addr), ReadsAll g vs ds as → ReadsAll g' vs ds as
  | [], _, _, _, r => by cases r; exact .nil
  | d :: ds, h, _, _, r => by
    cases r with
    | cons r1 r2 =>
      have h : (S3.noL d && S3.noL.noLs ds) = true := by simpa [S3.noL.noLs] using h
      rw [Bool.and_eq_true] at h
      exact .cons (reads_tup k d h.1 _ _ r1) (readsAll_tup k ds h.2 _ _ r2)
end
end
end MinK
end
section
set_option Elab.async false
set_option linter.all false
set_option maxRecDepth 100000
set_option maxHeartbeats 4000000
namespace S3S
open PySem PyProof.Rows PySem.W
section
variable {prog : Program} {w : World} {A : Around} {E : Value → Shared → Prop} {s : Shared} {β : Type} {bs : List β}
end
end S3S
namespace S3
open PySem PySem.Spec PyProof.Rows L2
noncomputable section NC
section
variable {B : Bx} {X : Cx} {W : WX}
structure ItX (X : Cx) (s : Shared) (p : Addr) (its : List Value) : Prop where
  coll : Coll X (.ref p) s fun _ vs => vs = its
  walk : ∀ (A' : Around) (E : Value → Shared → Prop), A'.handled = none → wpAny (model X.prog X.w) A' (pyIter (.ref p)) (fun it s₂ => ∃ I fp wr St h2, it = .ref I ∧ s₂ = { s with heap := h2 } ∧ Walks X.prog X.w A' I fp wr its.length (fun i v => its[i]? = some v) St ∧ St 0 h2 ∧ (∀ b ∈ fp, b < h2.objs.size) ∧
    (∀ b o, s.heap.get? b = some o → b ∉ wr) ∧ (∀ b o, s.heap.get? b = some o → h2.get? b = some o) ∧ ∀ i h, St i h → ∀ b ∈ wr, ∀ o, h.get? b = some o → o.cls ≠ .type "tuple") E s
end
end NC
end S3
end
section
set_option Elab.async false
set_option linter.all false
set_option maxRecDepth 100000
set_option maxHeartbeats 4000000
namespace S3
open PySem PySem.Spec PyProof.Rows L2
noncomputable section NC
section
variable {B : Bx} {X : Cx} {W : WX}
/-- quiet expressions whose value is data: new tuples among them -/
def SQD (B : Bx) (X : Cx) (sc : Scope) (e : Expr) (q : QE) : Prop := ∀ (cenv : Env) (A' : Around) (E' : Value → Shared → Prop) (s : Shared) (ρ : List Addr) (F : Hp) (h : AH) (H : Hp) (sl : Sl) (σ : L2.St) (a : AV), cenv.scope = sc → QS X cenv A' σ H s → HR B ρ F h H → SR B ρ F sl σ → q sl h = some a → (py a).plain = true → noL (py a) = true →
  wpAny (model X.prog X.w) A' (eval e cenv) (fun y s' => Reads s'.heap y (py a) [] ∧ Keeps s s') E' s
/-- the lambda that is the key -/
structure KeyX (B : Bx) (X : Cx) (c P : Addr) (params : Arguments) (body : Expr) (scope : Scope) (x : Str) (q : QE) : Prop where
  TB : LamX.TabB X.base X.mg c P
  hcode : X.env.code = .ref c
  hmT : (P, X.env.qual ++ "<lambda>") ∈ B.T
  huT : ∀ p ∈ B.T, p.1 = P → p.2 = X.env.qual ++ "<lambda>"
  S : KScope X.env.scope scope x
  bd : SQD B X scope body q
  hdef : defaultsOf params X.env = ([], [])
  hbind : ∀ (qu : Str) (cl : List (Str × Addr)) (pm cv ctv u : Value), bindArgs (PySem.W.kla_fn "<lambda>" qu params body scope cl pm cv ctv) ⟨[u], []⟩ = pure [(x, u)]
end
end NC
end S3
end
section
set_option Elab.async false
set_option linter.all false
set_option maxRecDepth 100000
set_option maxHeartbeats 4000000
namespace S3
open PySem PySem.Spec PyProof.Rows L2
noncomputable section NC
section
variable {B : Bx} {X : Cx} {sc : Scope}
end
end NC
end S3
end
section
set_option Elab.async false
set_option linter.all false
set_option maxRecDepth 100000
set_option maxHeartbeats 4000000
namespace S9
open PySem PySem.Spec PyProof.Rows L2 S3
section
variable {F : Fr} {ds : List SD}
section
variable {κ τ : Type} [DecidableEq κ] (kd : KD κ) {V : AH → AV → Prop} {E : τ → AV} {L : List (κ × τ)} {k : κ}
end
section
variable {τ κ : Type}
variable {V : AH → AV → Prop} {E : τ → AV} {L : List τ} {d : DtO κ} {f : τ → κ}
end
end
end S9
end
section
set_option Elab.async false
set_option linter.all false
set_option maxRecDepth 100000
set_option maxHeartbeats 4000000
namespace RT
open PySem PySem.Spec PyProof.Rows L2
section
variable {prog : Program} {w : World} {A : Around} {E : Value → Shared → Prop} {s : Shared}
end
section
variable {X : Cx}
end
end RT
namespace S3
open PySem PySem.Spec PyProof.Rows L2
noncomputable section NC
section
variable {B : Bx} {X : Cx} {W : WX}
end
end NC
end S3
end
section
set_option Elab.async false
set_option linter.all false
set_option maxRecDepth 100000
set_option maxHeartbeats 4000000
namespace S9
open PySem PySem.Spec PyProof.Rows L2 S3
section
variable {F : Fr} {ds : List SD} {N S R M M' Y τ : Type} {D : Ds N S R M} {dm : M → List SD}
end
end S9
end
section
set_option Elab.async false
set_option linter.all false
set_option maxRecDepth 100000
set_option maxHeartbeats 4000000
namespace ET
open PySem PySem.Spec PyProof.Rows L2
end ET
namespace S3
open PySem PySem.Spec PyProof.Rows L2
variable {B : Bx} {X : Cx} {W : WX}
section
end
end S3
end
section
set_option Elab.async false
set_option linter.all false
set_option maxRecDepth 100000
set_option maxHeartbeats 4000000
namespace S9
open PySem PySem.Spec PyProof.Rows L2 S3
section
variable {F : Fr} {ds : List SD} {M M' Y Z N S R X σ τ τ' κ : Type} {dm : M → List SD}
end
end S9
end
section
set_option Elab.async false
set_option linter.all false
set_option maxRecDepth 100000
set_option maxHeartbeats 4000000
namespace S3
open PySem PySem.Spec PyProof.Rows L2
section
variable {B : Bx} {X : Cx} {W : WX}
end
end S3
namespace S9
open PySem PySem.Spec PyProof.Rows L2 S3
section
variable {F : Fr} {ds : List SD} {M M' Y Z N S R X σ τ κ : Type} {dm : M → List SD}
end
end S9
end
section
set_option Elab.async false
set_option linter.all false
set_option maxRecDepth 100000
set_option maxHeartbeats 4000000
namespace S9
open PySem PySem.Spec PyProof.Rows L2 S3
section
variable {M' : Type}
end
end S9
end
section
set_option Elab.async false
set_option linter.all false
set_option maxRecDepth 100000
set_option maxHeartbeats 4000000
namespace S3
open PySem PySem.Spec PyProof.Rows L2
section
variable {B : Bx} {X : Cx} {W : WX}
end
end S3
namespace S9
open PySem PySem.Spec PyProof.Rows L2 S3
section
variable {F : Fr} {ds : List SD}
end
end S9
end
section
set_option Elab.async false
set_option linter.all false
set_option maxRecDepth 100000
set_option maxHeartbeats 4000000
namespace S9
open PySem PySem.Spec PyProof.Rows L2 S3
def Ct.noX {N S R M : Type} (t : Ct N S R M) : Ct N S R M := match t with
  | .exc _ _ => .stk
  | t => t
@[simp] theorem ct_noX_nx {N S R M : Type} (y : N) : (Ct.nx y : Ct N S R M).noX = .nx y := rfl
@[simp] theorem ct_noX_rt {N S R M : Type} (y : R) : (Ct.rt y : Ct N S R M).noX = .rt y := rfl
@[simp] theorem ct_noX_bk {N S R M : Type} (y : S) : (Ct.bk y : Ct N S R M).noX = .bk y := rfl
@[simp] theorem ct_noX_ct {N S R M : Type} (y : S) : (Ct.ct y : Ct N S R M).noX = .ct y := rfl
section
variable {F : Fr} {ds : List SD} {h h' : AH} {N S R M : Type}
theorem FAt.lookAt {f : Str} : ∀ {fs : List (Str × FV)} {avs : List (Str × AV)} {A : List Nat} {o : LO} {b : Nat}, FAt h fs avs A → fs.lookup f = some (.oat b o) → avs.lookup f = some (.ref b) ∧ h[b]? = some o.ao ∧ b ∈ A
  | [], _, _, _, _, _, e => nomatch e
  | (g, .val v) :: r, _, _, o, b, w, e => by
    obtain ⟨r', rfl, _, w⟩ := w
    rw [List.lookup_cons] at e ⊢
    cases k : f == g with
    | true => rw [k] at e; injection e with e; cases e
    | false => rw [k] at e; exact w.lookAt e
  | (g, .own o2) :: r, _, _, o, b, w, e => by
    obtain ⟨b2, r', A', rfl, eb, rfl, _, w⟩ := w
    rw [List.lookup_cons] at e ⊢
    cases k : f == g with
    | true => rw [k] at e; injection e with e; cases e
    | false =>
      rw [k] at e
      obtain ⟨e1, e2, e3⟩ := w.lookAt e
      exact ⟨e1, e2, List.mem_cons_of_mem _ e3⟩
  | (g, .oat b2 o2) :: r, _, _, o, b, w, e => by
    obtain ⟨r', A', rfl, eb, rfl, _, w⟩ := w
    rw [List.lookup_cons] at e ⊢
    cases k : f == g with
    | true => rw [k] at e; injection e with e; injection e with e1 e2; subst e1 e2; exact ⟨rfl, eb, List.mem_cons_self⟩
    | false =>
      rw [k] at e
      obtain ⟨e1, e2, e3⟩ := w.lookAt e
      exact ⟨e1, e2, List.mem_cons_of_mem _ e3⟩
theorem FAt.ofAt {f : Str} {o o' : LO} {b : Nat} : ∀ {fs : List (Str × FV)} {avs : List (Str × AV)} {A : List Nat}, FAt h fs avs A → fs.lookup f = some (.oat b o) → h'[b]? = some o'.ao → (∀ x ∈ A, x ≠ b → h'[x]? = h[x]?) → FAt h' (putF f (.own o') fs) avs A
  | [], _, _, w, el, _, _ => nomatch el
  | (g, .val v) :: r, _, _, w, el, eb, e => by
    obtain ⟨r', rfl, nv, w⟩ := w
    rw [List.lookup_cons] at el
    unfold putF
    cases k : f == g with
    | true => rw [k] at el; injection el with el; cases el
    | false =>
      rw [k] at el
      rw [if_neg (by rintro rfl; simp at k)]
      exact ⟨r', rfl, nv, w.ofAt el eb e⟩
  | (g, .own o2) :: r, _, _, w, el, eb, e => by
    obtain ⟨b2, r', A1, rfl, e1, rfl, n1, w⟩ := w
    rw [List.lookup_cons] at el
    unfold putF
    cases k : f == g with
    | true => rw [k] at el; injection el with el; cases el
    | false =>
      rw [k] at el
      rw [if_neg (by rintro rfl; simp at k)]
      have hb2 : b2 ≠ b := by
        rintro rfl
        exact n1 (w.lookAt el).2.2
      exact ⟨b2, r', A1, rfl, by rw [e b2 List.mem_cons_self hb2]; exact e1, rfl, n1, w.ofAt el eb fun x hx => e x (List.mem_cons_of_mem _ hx)⟩
  | (g, .oat b2 o2) :: r, _, _, w, el, eb, e => by
    obtain ⟨r', A1, rfl, e1, rfl, n1, w⟩ := w
    rw [List.lookup_cons] at el
    unfold putF
    cases k : f == g with
    | true =>
      rw [k] at el
      have : g = f := by simpa using (by simpa using k : f = g).symm
      rw [if_pos this]
      injection el with el; injection el with el el2; subst el
      exact ⟨_, r', A1, rfl, eb, rfl, n1, w.frame fun x hx => e x (List.mem_cons_of_mem _ hx) fun z => n1 (z ▸ hx)⟩
    | false =>
      rw [k] at el
      rw [if_neg (by rintro rfl; simp at k)]
      have hb2 : b2 ≠ b := by
        rintro rfl
        exact n1 (w.lookAt el).2.2
      exact ⟨r', A1, rfl, by rw [e b2 List.mem_cons_self hb2]; exact e1, rfl, n1, w.ofAt el eb fun x hx => e x (List.mem_cons_of_mem _ hx)⟩
/-- what the lock leaves behind -/
def Unl (i : Nat) (f : Str) (b : Nat) (o : LO) (dl d : List SD) : Prop := ∃ e c fs, dl[i]? = some e ∧ e.isO (.ins c fs) ∧ fs.lookup f = some (.oat b (.lck o)) ∧ d = dl.set i (e.re (.ins c (putF f (.own o) fs)))
theorem Unl.go {i : Nat} {f : Str} {b : Nat} {o : LO} {dl d : List SD} (u : Unl i f b o dl d) {s : Sl} (w : EnvP F dl s h) : EnvP F d s (h.set b o.ao) := by
  obtain ⟨e, c, fs, hd, ho, el, rfl⟩ := u
  obtain ⟨fp, w⟩ := w
  obtain ⟨b0, e1, ⟨avs, A', e2, wf, e3, n1⟩, _⟩ := w.getO hd ho
  obtain ⟨e4, e5, e6⟩ := wf.lookAt el
  have hb := (List.getElem?_eq_some_iff.mp e5).1
  have nb : b0 ≠ b := by rintro rfl; exact n1 e6
  have lo : S3.LO h.length o.ao := by
    have z := w.hok.cl b _ e5
    exact z
  refine EnvP.updO w (A := b0 :: A') hd ho e1 (Stp.set w.hok.cl lo (by rw [e3]; exact List.mem_cons_of_mem _ e6)) ⟨avs, A', by rw [List.getElem?_set_ne (Ne.symm nb)]; exact e2, wf.ofAt el (List.getElem?_set_self hb) fun x hx hne => List.getElem?_set_ne (Ne.symm hne), rfl, n1⟩ fun a ha => .inl (by rw [e3]; exact ha)
theorem Unl.len {i : Nat} {f : Str} {b : Nat} {o : LO} {dl d : List SD} (u : Unl i f b o dl d) : d.length = dl.length := by
  obtain ⟨e, c, fs, hd, ho, el, rfl⟩ := u
  rw [List.length_set]
/-- a loop that only goes on (no return, no error out of it) -/
def Ct.onlyNx (t : Ct N S R M) : Ct N S R M := match t with
  | .nx y => .nx y
  | _ => .stk
@[simp] theorem ct_onlyNx_nx (y : N) : (Ct.nx y : Ct N S R M).onlyNx = .nx y := rfl
end
end S9
end
section
set_option Elab.async false
set_option linter.all false
set_option maxRecDepth 100000
set_option maxHeartbeats 4000000
namespace S3S
open PySem PySem.W PySem.Calls PyProof.Rows PySem.Spec
section
variable {prog : Program} {w : World} {A : Around} {E : Value → Shared → Prop} {s : Shared} {T : String} {r d : Addr} {n : Nat} {P : Nat → Value → Prop} {OK : Heap → Prop} {Q : Value → Shared → Prop}
end
end S3S
namespace S3
open PySem PySem.Spec PyProof.Rows L2
section
variable {B : Bx} {X : Cx}
end
end S3
namespace S9
open PySem PySem.Spec PyProof.Rows L2 S3
section
variable {F : Fr} {ds : List SD} {κ : Type} [DecidableEq κ] (kd : KD κ) {V : AH → AV → Prop}
end
end S9
end
section
set_option Elab.async false
set_option linter.all false
set_option maxRecDepth 100000
set_option maxHeartbeats 4000000
namespace S3
open PySem PySem.Spec PyProof.Rows L2
section
variable {B : Bx} {X : Cx} {W : WX}
end
end S3
namespace S9
open PySem PySem.Spec PyProof.Rows L2 S3
section
variable {F : Fr} {ds : List SD}
end
end S9
end
section
set_option Elab.async false
set_option linter.all false
set_option maxRecDepth 100000
set_option maxHeartbeats 4000000
namespace S9
open PySem PySem.Spec PyProof.Rows L2 S3
section
variable {F : Fr} {ds : List SD} {M Y Z : Type} {dm : M → List SD}
end
end S9
end
section
set_option Elab.async false
set_option linter.all false
set_option maxRecDepth 100000
set_option maxHeartbeats 4000000
namespace S3
open PySem PySem.Spec PyProof.Rows L2
section
variable {B : Bx} {X : Cx} {W : WX}
end
end S3
namespace S9
open PySem PySem.Spec PyProof.Rows L2 S3
section
variable {F : Fr} {ds : List SD} {X σ τ M : Type}
end
section
variable {F : Fr} {ds : List SD} {σ S R M : Type}
end
end S9
end
section
set_option Elab.async false
set_option linter.all false
set_option maxRecDepth 100000
set_option maxHeartbeats 4000000
namespace S9
open PySem S3
noncomputable section
variable {M' : Type}
end
end S9
end
section
set_option Elab.async false
set_option linter.all false
set_option maxRecDepth 100000
set_option maxHeartbeats 4000000
namespace S3
open PySem PySem.Spec PyProof.Rows L2
noncomputable section
section
variable {B : Bx} {X : Cx} {W : WX}
end
end
end S3
namespace S9
open PySem PySem.Spec PyProof.Rows L2 S3
section
variable {F : Fr} {ds : List SD} {N S R M : Type} {D : Ds N S R M} {t : Ct N S R M}
inductive Pu where
  | nm (i : Nat) | sub (i k : Nat)
end
end S9
end
section
set_option Elab.async false
set_option linter.all false
set_option maxRecDepth 100000
set_option maxHeartbeats 4000000
namespace S3
open PySem PySem.Spec PyProof.Rows L2
noncomputable section
section
variable {B : Bx} {X : Cx} {W : WX}
end
end
end S3
namespace S9
open PySem PySem.Spec PyProof.Rows L2 S3
section
variable {κ τ : Type} [DecidableEq κ] (kd : KD κ) {F : Fr} {ds : List SD} {V : AH → AV → Prop} {E : τ → AV} {L : List (κ × τ)}
end
end S9
end
section
set_option Elab.async false
set_option linter.all false
set_option maxRecDepth 100000
set_option maxHeartbeats 4000000
namespace S9
open PySem PySem.Spec PyProof.Rows L2 S3
section
variable {F : Fr} {ds : List SD} {τ : Type}
def aInt : AV → Int
  | .int i => i
  | _ => 0
@[simp] theorem aInt_int {i : Int} : aInt (.int i) = i := rfl
theorem nt_ {x : Bool} (h : x = false) : (!x) = true := by rw [h]; rfl
end
end S9
end
section
set_option Elab.async false
set_option linter.all false
set_option maxRecDepth 100000
set_option maxHeartbeats 4000000
namespace S9
open PySem S3
noncomputable section
section
variable {κ τ : Type} [DecidableEq κ] [Inhabited τ]
def fd (K : List κ) (f : κ → τ) : List (κ × τ) := K.map fun x => (x, f x)
end
section
variable {α β : Type}
end
end
end S9
end
section
set_option Elab.async false
set_option linter.all false
set_option maxRecDepth 100000
set_option maxHeartbeats 4000000
namespace S3
open PySem PySem.Spec PyProof.Rows L2
noncomputable section
section
variable {B : Bx} {X : Cx} {W : WX}
end
end
end S3
namespace S9
open PySem PySem.Spec PyProof.Rows L2 S3
section
variable {F : Fr} {ds : List SD} {N S R M : Type}
/-- a loop that goes on, or lets an error out -/
def Ct.nxX (t : Ct N S R M) : Ct N S R M := match t with
  | .nx y => .nx y
  | .exc c m => .exc c m
  | _ => .stk
@[simp] theorem ct_nxX_nx (y : N) : (Ct.nx y : Ct N S R M).nxX = .nx y := rfl
@[simp] theorem ct_nxX_exc (c : Str) (m : M) : (Ct.exc c m : Ct N S R M).nxX = .exc c m := rfl
/-- an own variable's lock opened -/
def UnlV (i : Nat) (o : LO) (dl d : List SD) : Prop := ∃ e, dl[i]? = some e ∧ e.isO (.leaf (.lck o)) ∧ d = dl.set i (e.re (.leaf o))
theorem UnlV.go {i : Nat} {o : LO} {dl d : List SD} (u : UnlV i o dl d) {s : Sl} {h : AH} {n : Nat} (en : s[i]? = some (some (.ref n))) (w : EnvP F dl s h) : EnvP F d s (h.set n o.ao) := by
  obtain ⟨e, hd, ho, rfl⟩ := u
  obtain ⟨fp, w⟩ := w
  obtain ⟨b0, e1, ⟨e2, e3⟩, _⟩ := w.getO hd ho
  rw [en] at e1
  cases e1
  have lo : S3.LO h.length o.ao := by
    have z := w.hok.cl n _ e2
    exact z
  have hn := (List.getElem?_eq_some_iff.mp e2).1
  exact EnvP.updO w (A := [n]) hd ho en (Stp.set w.hok.cl lo (by rw [e3]; exact List.mem_singleton.mpr rfl)) ⟨List.getElem?_set_self hn, rfl⟩ fun a ha => .inl (by rw [e3]; exact ha)
end
end S9
end
section
set_option Elab.async false
set_option linter.all false
set_option maxRecDepth 100000
set_option maxHeartbeats 4000000
namespace RT
open PySem PySem.Spec PyProof.Rows L2
section
variable {prog : Program} {w : World} {A : Around} {E : Value → Shared → Prop} {s : Shared} {r d : Addr} {es : Array DictEntry} {ep : Nat}
end
end RT
namespace S3
open PySem PySem.Spec PyProof.Rows L2
noncomputable section NC
section
variable {B : Bx} {X : Cx} {W : WX}
end
end NC
end S3
namespace S9
open PySem PySem.Spec PyProof.Rows L2 S3
section
variable {κ τ : Type} [DecidableEq κ] (kd : KD κ) {F : Fr} {ds : List SD} {V : AH → AV → Prop} {E : τ → AV} {L : List (κ × τ)}
end
section
variable {F : Fr} {ds : List SD} {N S R M Y : Type} {D : Ds N S R M}
end
section
variable {τ : Type}
end
section
variable {F : Fr} {ds : List SD}
end
section
variable {F : Fr} {ds : List SD} {N S R M : Type} {D : Ds N S R M} {t : Ct N S R M}
end
section
variable {F : Fr} {ds : List SD} {N S R M : Type} {D : Ds N S R M} {t : Ct N S R M}
end
end S9
end
section
set_option Elab.async false
set_option linter.all false
set_option maxRecDepth 100000
set_option maxHeartbeats 4000000
namespace S9
open PySem S3
noncomputable section
section
variable {α : Type}
end
section
variable {κ τ : Type} [DecidableEq κ]
end
end
end S9
end
section
set_option Elab.async false
set_option linter.all false
set_option maxRecDepth 100000
set_option maxHeartbeats 4000000
namespace ET
open PySem PySem.Spec PyProof.Rows L2
section
variable {prog : Program} {w : World} {A : Around} {E : Value → Shared → Prop} {s : Shared}
end
end ET
namespace S3
open PySem PySem.Spec PyProof.Rows L2
variable {B : Bx} {X : Cx} {W : WX}
end S3
namespace S9
open PySem PySem.Spec PyProof.Rows L2 S3
section
variable {F : Fr} {ds : List SD}
end
end S9
namespace S3
open PySem PySem.Spec PyProof.Rows L2
noncomputable section NC
section
variable {B : Bx} {X : Cx} {W : WX}
end
end NC
end S3
namespace S9
open PySem PySem.Spec PyProof.Rows L2 S3
section
variable {κ τ : Type} [DecidableEq κ] (kd : KD κ) {F : Fr} {ds : List SD} {V : AH → AV → Prop} {E : τ → AV} {L : List (κ × τ)} {M : Type} {dm : M → List SD}
end
end S9
namespace S9
open PySem PySem.Spec PyProof.Rows L2 S3
section
variable {F : Fr} {ds : List SD} {M Y : Type} {dm : M → List SD}
end
end S9
namespace S3
end S3
namespace S9
open PySem PySem.Spec PyProof.Rows L2 S3
/-- the texts of a value that is a tuple of texts -/
def aStr : AV → Str
  | .str x => x
  | _ => ⟨#[]⟩
end S9
namespace S9
open PySem PySem.Spec PyProof.Rows L2 S3
noncomputable section
section
variable {α : Type} [DecidableEq α] (d : DtO α)
end
end
end S9
namespace S9
open PySem PySem.Spec PyProof.Rows L2 S3
section
variable {κ τ : Type} [DecidableEq κ] (kd : KD κ) {F : Fr} {ds : List SD} {E : τ → AV} {M Y : Type} {dm : M → List SD}
end
end S9
namespace S3
end S3
namespace S9
open PySem PySem.Spec PyProof.Rows L2 S3
@[simp] theorem aStr_str {x : Str} : aStr (.str x) = x := rfl
end S9
namespace S9
open PySem PySem.Spec PyProof.Rows L2 S3
end S9
end
section
set_option Elab.async false
set_option linter.all false
set_option maxRecDepth 100000
set_option maxHeartbeats 4000000
namespace RT
open PySem PySem.Spec PyProof.Rows L2
section
variable {prog : Program} {w : World} {A : Around} {E : Value → Shared → Prop} {s : Shared}
end
section
variable {X : Cx}
end
end RT
namespace S3
open PySem PySem.Spec PyProof.Rows L2
noncomputable section NC
section
variable {B : Bx} {X : Cx} {W : WX}
def txtsA : List AV → Option (List Str)
  | [] => some []
  | .str x :: r => (txtsA r).map (x :: ·)
  | _ :: _ => none
theorem txtsA_at {ρ : List Addr} {F : Hp} : ∀ {xs : List AV} {vs : List V} {ys : List Str}, RVs B ρ F xs vs → txtsA xs = some ys → vs = ys.map V.str
  | [], vs, ys, r, e => by cases e; exact r
  | a :: xs, vs, ys, r, e => by
    cases a with
    | str x =>
      unfold txtsA at e
      cases k : txtsA xs with
      | none => rw [k] at e; cases e
      | some zs =>
        rw [k] at e
        cases e
        obtain ⟨v, w, rfl, r1, r2⟩ := r
        have r1 : v = .str x := r1
        rw [r1, txtsA_at r2 k]; rfl
    | _ => unfold txtsA at e; cases e
def gJoin (x : Str) : GL := fun as h => match as with
  | [b] => match (vSq h b).bind txtsA with
    | some ys => if (ys.map (·.length)).sum + ys.length * x.length ≤ 16777216 then some (.str (Txt.join x ys)) else none
    | none => none
  | _ => none
theorem se_join {x : Str} {e : Expr} {m : ME} {j : Nat} {cpos apos pos : Pos} (he : SE B X W e m) (hK : X.K = B.K := by rfl) (hs : starEach [e] X.env = [(false, eval e X.env)] := by rfl) (hbase : attributeBase (.Constant (.str x) j cpos) "join" X.env (eval (.Constant (.str x) j cpos) X.env) = eval (.Constant (.str x) j cpos) X.env := by rfl) (hline : (apos.endLine == pos.line) = true := by rfl) :
    SE B X W (.Call (.Attribute (.Constant (.str x) j cpos) "join" apos) [e] [] pos) (mFn (gJoin x) (mCons m mNil)) :=
  PE.imp (L2.pe_join pe_str he hs hbase hline) fun σ H Q ⟨ρ, F, h, s, sr, hr, p⟩ => by
    have e0 : mFn (gJoin x) (mCons m mNil) s h = (m s h).bind fun a h1 => ofO (gJoin x [a] h1) h1 := by
      show (mCons m mNil s h).bind _ = _
      show ((m s h).bind fun a h1 => (mNil s h1).bind fun r h2 => .ok (a :: r) h2).bind _ = _
      cases m s h <;> rfl
    rw [e0] at p
    refine ⟨⟨x, rfl⟩, ρ, F, h, s, sr, hr, p.andThen fun a h1 ρ1 F1 H1 y er e1 hr1 ra p1 => ?_⟩
    obtain ⟨c, ec, q⟩ := ofO_post p1
    have ec : (match (vSq h1 a).bind txtsA with
      | some ys => if (ys.map fun (y : Str) => y.length).sum + ys.length * x.length ≤ 16777216 then some (AV.str (Txt.join x ys)) else none
      | none => none) = some c := ec
    cases k : vSq h1 a with
    | none => rw [k] at ec; cases ec
    | some xs =>
      rw [k, Option.bind_some] at ec
      cases k2 : txtsA xs with
      | none => rw [k2] at ec; cases ec
      | some ys =>
        rw [k2] at ec
        simp only at ec
        split at ec
        · rename_i hz
          cases ec
          obtain ⟨pa, vs, ex, sq, rs⟩ := vSq_at hr1 ra k
          have ev := txtsA_at rs k2
          subst ev
          exact ⟨x, pa, ys, rfl, by rw [ex], by rw [hK]; exact sq, hz, q _ _ _ _ Ext.refl hr1 rfl⟩
        · cases ec
def intsA : List AV → Option (List Int)
  | [] => some []
  | .int x :: r => (intsA r).map (x :: ·)
  | _ :: _ => none
end
end NC
end S3
namespace S9
open PySem PySem.Spec PyProof.Rows L2 S3
section
variable {F : Fr} {ds : List SD} {V : AH → AV → Prop} {τ : Type}
def JnOk (x : Str) (L : List Str) : Prop := (L.map fun (y : Str) => y.length).sum + L.length * x.length ≤ 16777216
theorem txts_map : ∀ L : List Str, txtsA (L.map AV.str) = some L
  | [] => rfl
  | x :: L => by
    show (txtsA (L.map AV.str)).map (x :: ·) = _
    rw [txts_map L]; rfl
theorem op_join {x : Str} {L : List Str} (sq : IsSq V (L.map AV.str)) (g : JnOk x L) : ∀ h v, V h v → gJoin x [v] h = some (.str (Txt.join x L)) := fun h v w => by
  show (match (vSq h v).bind txtsA with
      | some ys => if (ys.map fun (y : Str) => y.length).sum + ys.length * x.length ≤ 16777216 then some (AV.str (Txt.join x ys)) else none
      | none => none) = _
  rw [sq h v w, Option.bind_some, txts_map]
  exact if_pos g
theorem ints_map : ∀ L : List Int, intsA (L.map AV.int) = some L
  | [] => rfl
  | x :: L => by
    show (intsA (L.map AV.int)).map (x :: ·) = _
    rw [ints_map L]; rfl
end
section
variable {F : Fr} {ds : List SD} {M Y : Type} {dm : M → List SD}
end
end S9
namespace S3
open PySem PySem.Spec PyProof.Rows L2
noncomputable section NC
section
variable {B : Bx} {X : Cx} {W : WX}
end
end NC
end S3
namespace S9
open PySem PySem.Spec PyProof.Rows L2 S3
section
variable {κ τ : Type} [DecidableEq κ] (kd : KD κ) {F : Fr} {ds : List SD} {V : AH → AV → Prop} {E : τ → AV} {L : List (κ × τ)}
end
section
variable {τ τ' : Type}
end
end S9
namespace S9
open PySem PySem.Spec PyProof.Rows L2 S3
noncomputable section
end
end S9
namespace S9
open PySem PySem.Spec PyProof.Rows L2 S3
section
variable {F : Fr} {ds : List SD} {V1 V2 : AH → AV → Prop}
section
variable {κ τ : Type} [DecidableEq κ] (kd : KD κ) {E : τ → AV} {L : List (κ × τ)}
end
end
end S9
namespace PySem
open Sem (wp)
section
variable {prog : Program} {w : World} {A : Around} {E : Value → Shared → Prop} {s : Shared}
end
end PySem
namespace S3
open PySem PySem.Spec PyProof.Rows L2
section
variable {B : Bx} {X : Cx}
end
end S3
namespace S3
open PySem PySem.Spec PyProof.Rows L2
section
variable {B : Bx} {X : Cx}
end
end S3
namespace S9
open PySem PySem.Spec PyProof.Rows L2 S3
def strLen (x : Str) : Int := (x.length : Nat)
theorem op_lenS {x : Str} (g : LsOk (Str.length x)) : ∀ h v, VE (.str x) h v → gLen [v] h = some (.int (strLen x)) := fun h v e => by
  have e : v = .str x := e
  subst e
  unfold gLen
  simp only [vSq, vT]
  first | rfl | simp [ls_size g, strLen]
end S9
end
section
set_option Elab.async false
set_option linter.all false
set_option maxRecDepth 100000
set_option maxHeartbeats 4000000
namespace ET
open PySem PySem.Spec PyProof.Rows L2
end ET
namespace S3
open PySem PySem.Spec PyProof.Rows L2
noncomputable section NC
section
variable {B : Bx} {X : Cx} {W : WX}
end
end NC
end S3
namespace S9
open PySem PySem.Spec PyProof.Rows L2 S3
section
variable {F : Fr} {ds : List SD} {τ : Type}
def strChs (x : Str) : List Str := x.cps.toList.map fun c => ⟨#[c]⟩
end
end S9
end
section
set_option Elab.async false
set_option linter.all false
set_option maxRecDepth 100000
set_option maxHeartbeats 4000000
namespace S9
open PySem PySem.Spec PyProof.Rows L2 S3
section
variable {F : Fr} {ds : List SD} {M : Type} {Y : Type} {dm : M → List SD}
end
end S9
end
section
set_option Elab.async false
set_option linter.all false
set_option maxRecDepth 100000
set_option maxHeartbeats 4000000
namespace S3
open PySem PySem.Spec PyProof.Rows L2
section
variable {B : Bx} {X : Cx} {W : WX}
section
variable {a e f : Expr} {mx me mf : ME} {p pos2 pos : Pos} (hg : Gl X "range") (hm : X.mg "range" = none) (ha : SE B X W a mx) (hb : SE B X W e me) (hc : SE B X W f mf)
    (he : starEach [e, f] X.env = (false, eval e X.env) :: starEach [f] X.env := by rfl) (he2 : starEach [f] X.env = (false, eval f X.env) :: starEach [] X.env := by rfl) (hpl : (backTo pos2 (starEach [f] X.env)).any (·.1) = false := by rfl)
include hg hm ha hb hc he he2 hpl
end
end
noncomputable section NC
section
variable {B : Bx} {X : Cx} {sc : Scope}
structure MQ2 (o : Expr) (m : Str) (apos : Pos) (e f : Expr) (cpos : Pos) : Prop where
  base : ∀ env, attributeBase o m env (eval o env) = eval o env
  few : ∀ env, ((backTo cpos (starEach [e, f] env)).all (fun x => !x.1) && (backToKw cpos (keywordEach [] env)).all (fun x => x.1.isSome) && decide (([e, f] : List Expr).length + ([] : List Keyword).length + (if ([] : List Keyword).isEmpty then 0 else 1) < 30)) = true
  line : (apos.endLine == cpos.line) = true
  trees : ∀ env, backTo cpos (starEach [e, f] env) = [(false, eval e env), (false, eval f env)]
end
def QVs (B : Bx) (ρ : List Addr) (F : Hp) (as : List AV) (us : List Value) : Prop := ∃ vs, Vals vs us ∧ RVs B ρ F as vs
abbrev QFn := List AV → AH → Option AV
structure QDef (B : Bx) (P : Program) (w : World) (base : Heap) (f : Addr) (n : Nat) (g : QFn) : Prop where
  run : ∀ (A' : Around) (E' : Value → Shared → Prop) (s : Shared) (ρ : List Addr) (F : Hp) (h : AH) (H : Hp) (as : List AV) (us : List Value) (c : AV), A'.handled = none → A'.depth < recursionLimit → A'.units + 103 < cLine → HOk P w H s.heap → (∀ b o, base.get? b = some o → s.heap.get? b = some o) → Mod B.K B.mg base → HR B ρ F h H → QVs B ρ F as us → as.length = n → g as h = some c →
    wpAny (model P w) A' (call (.ref f) us) (fun y s' => QV B ρ F c y ∧ Keeps s s') E' s
section
variable {B : Bx} {X : Cx} {sc : Scope}
end
end NC
end S3
end
section
set_option Elab.async false
set_option linter.all false
set_option maxRecDepth 100000
set_option maxHeartbeats 4000000
namespace S3
open PySem PySem.Spec PyProof.Rows L2
noncomputable section NC
section
variable {B : Bx} {X : Cx} {W : WX}
section
variable {x : Str} {e : Expr} {es : List Expr} {p pos : Pos} {ma : MA} (hg : Gl X x) (hm : X.mg x = none) (hv : bootBuiltins x = some (.type "dict")) (hc : X.calm = true) (hu : X.A.units + 64 < cLine) (ha : SA B X W (e :: es) ma)
include hg hm hv hc hu ha
end
end
section
variable {B : Bx} {X : Cx} {W : WX}
/-- what an entry's going leaves -/
theorem dropped {pins : List (Addr × Obj)} {σ : L2.St} {H : Hp} {s : Shared} {a : Addr} {kvs : List (List Key × V)} {k : List Key} {xs : List (List Key × Addr × Value)} {h' : Heap} {tk : Nat} (I : Inv X pins σ H s) (ha : H a = some (.dT kvs)) (z : kvs.length ≤ sizeLine) (hd : (a == sysModules) = false) (rel : KT H kvs xs) (dd' : h'.DictOfH (tupleKind (mixKind X.prog X.w)) a (withoutH xs k)) (hs : Heap.SameBut a s.heap h') : Inv X pins σ (upd H a (.dT (dropK kvs k))) { s with heap := h', toks := tk } := by
  obtain ⟨o, es, ep, hq, h2, h3, h4, _, h5⟩ := dd'
  have kd : KT H (dropK kvs k) (withoutH xs k) := DX.KT_drop k rel
  exact d_write I (by rw [ha]; exact True.intro) hs ⟨o, hq⟩ ⟨Nat.le_trans (dropK_le kvs k) z, hd, _, KT.keeps kd (fun c ys ec => (by rw [upd_ne (ne_of ec ha (fun z => nomatch z))]; exact ec)), o, es, ep, hq, h2, h3, h4, h5⟩
end
end NC
end S3
end
section
set_option Elab.async false
set_option linter.all false
set_option maxRecDepth 100000
set_option maxHeartbeats 4000000
namespace S3
open PySem PySem.Spec PyProof.Rows L2
noncomputable section NC
section
variable {B : Bx} {X : Cx} {W : WX}
theorem RTs.nth {ρ : List Addr} {F : Hp} {kvs : List (List Key × AV)} {ws : List (List Key × V)} (r : RTs B ρ F kvs ws) {i : Nat} {k : List Key} {a : AV} (e : kvs[i]? = some (k, a)) : ∃ v, ws[i]? = some (k, v) ∧ RV B ρ F a v := by
  induction kvs generalizing ws i with
  | nil => cases e
  | cons p t ih =>
    obtain ⟨j, b⟩ := p
    obtain ⟨v, w, ev, r1, r2⟩ := r
    subst ev
    cases i with
    | zero => cases e; exact ⟨v, rfl, r1⟩
    | succ i => exact ih r2 e
end
end NC
end S3
namespace S9
open PySem PySem.Spec PyProof.Rows L2 S3
section
variable {F : Fr} {ds : List SD} {N S R M : Type} {D : Ds N S R M} {t : Ct N S R M}
section
variable {κ τ : Type} [DecidableEq κ] (kd : KD κ) {V : AH → AV → Prop} {E : τ → AV} {L : List (κ × τ)} {k : κ}
end
end
end S9
namespace S9.Tk
open PySem PySem.Spec PyProof.Rows L2 S3 S9
noncomputable section
structure KD (κ : Type) where
  kE : κ → List Key
  e : κ → AV
  inj : ∀ x y, kE x = kE y → x = y
  ko : ∀ x, keyT (e x) = some (kE x)
  ka : ∀ x, AV.tup ((kE x).map keyA) = e x
  can : ∀ x, canon (e x) = true
section
variable {κ τ : Type} [DecidableEq κ]
variable (kd : KD κ) {E : τ → AV}
abbrev enK (kd : KD κ) (E : τ → AV) (L : List (κ × τ)) : List (List Key × AV) := L.map fun p => (kd.kE p.1, E p.2)
theorem kget_en : ∀ (L : List (κ × τ)) (k : κ), kget (enK kd E L) (kd.kE k) = (dget L k).map E
  | [], k => rfl
  | (j, a) :: r, k => by
    show (if kd.kE j = kd.kE k then some (E a) else kget (enK kd E r) (kd.kE k)) = (if j = k then some a else dget r k).map E
    by_cases c : j = k
    · rw [if_pos (by rw [c]), if_pos c]; rfl
    · rw [if_neg fun z => c (kd.inj _ _ z), if_neg c, kget_en r k]
theorem kput_en (L : List (κ × τ)) (k : κ) (v : τ) : kput (enK kd E L) (kd.kE k) (E v) = enK kd E (dput L k v) := by
  have e1 : ((enK kd E L).any fun kv => decide (kv.1 = kd.kE k)) = L.any fun p => decide (p.1 = k) := by
    rw [List.any_map]
    congr 1
    funext p
    show decide (kd.kE p.1 = kd.kE k) = decide (p.1 = k)
    by_cases c : p.1 = k
    · rw [c]; simp
    · rw [decide_eq_false c, decide_eq_false fun z => c (kd.inj _ _ z)]
  unfold kput dput
  rw [e1]
  by_cases c : (L.any fun p => decide (p.1 = k)) = true
  · rw [if_pos c, if_pos c]
    simp only [enK, List.map_map]
    refine List.map_congr_left fun p _ => ?_
    show (if kd.kE p.1 = kd.kE k then (kd.kE p.1, E v) else (kd.kE p.1, E p.2)) = _
    by_cases c : p.1 = k
    · simp [c]
    · rw [if_neg fun z => c (kd.inj _ _ z)]; simp [c]
  · rw [if_neg c, if_neg c]; simp [enK]
theorem lks_can {d : Dt τ} : ∀ L : List (κ × τ), S3.LTs 0 (enK kd d.enc L)
  | [] => trivial
  | p :: L => ⟨nr_of p.2, lks_can L⟩
theorem nroK (d : Dt τ) (L : List (κ × τ)) : NRO (.dT (enK kd d.enc L)) := lks_can kd L
section
variable {L : List (κ × τ)} {k : κ} {V V1 V2 : AH → AV → Prop} {h : AH}
theorem dGet_en (hv : IsD V (.t (enK kd E L))) {v : AV} (w : V h v) : dGet h v (kd.e k) = some ((dget L k).map E) := by
  unfold dGet
  rw [hv h v w]
  simp only [kd.ko, kget_en]
theorem op_inDf (hv : IsD V (.t (enK kd E L))) : ∀ h a v, VE (kd.e k) h a → V h v → gIn false a v h = some (.bl (dhas L k)) := fun h a v ea w => by
  have ea : a = kd.e k := ea
  subst ea
  unfold gIn
  rw [dGet_en kd hv w]
  simp [dhas]
variable {F : Fr} {ds : List SD} {M : Type} {dm : M → List SD}
theorem op_setD {x : τ} (g : LsOk L.length) : ∀ h b, h[b]? = some (LO.ao (.dT (enK kd E L))) → gSet (.ref b) (kd.e k) (E x) h = some (h.set b (LO.ao (.dT (enK kd E (dput L k x))))) := fun h b eb => by
  have eb : h[b]? = some (.dT (enK kd E L)) := eb
  unfold gSet
  simp only [eb, kd.ko]
  rw [if_pos (by rw [List.length_map]; exact ls_lt g), kput_en]; rfl
section
variable {Y : Type}
end
end
end
end
end S9.Tk
end
section
set_option Elab.async false
set_option linter.all false
set_option maxRecDepth 100000
set_option maxHeartbeats 4000000
namespace S3
open PySem PySem.Spec PyProof.Rows L2
noncomputable section NC
section
variable {B : Bx} {X : Cx} {W : WX}
end
end NC
end S3
namespace S9
end S9
namespace S9
open PySem PySem.Spec PyProof.Rows L2 S3
section
variable {F : Fr} {ds : List SD} {N S R M : Type} {D : Ds N S R M} {t : Ct N S R M}
end
end S9
namespace S3
open PySem PySem.Spec PyProof.Rows L2
end S3
end
section
set_option Elab.async false
set_option linter.all false
set_option maxRecDepth 100000
set_option maxHeartbeats 4000000
namespace S9
open PySem PySem.Spec PyProof.Rows L2 S3
section
variable {τ M Y : Type} {F : Fr} {ds : List SD} {dm : M → List SD}
end
end S9
end
section
set_option Elab.async false
set_option linter.all false
set_option maxRecDepth 100000
set_option maxHeartbeats 4000000
namespace S3
open PySem PySem.Spec PyProof.Rows L2
noncomputable section NC
section
variable {B : Bx} {X : Cx} {sc : Scope}
end
end NC
end S3
namespace S9
open PySem S3
noncomputable section
variable {F : Fr} {ds : List SD}
end
end S9
namespace S9.Tk
open PySem S3 S9
noncomputable section
section
variable {κ τ : Type} [DecidableEq κ]
variable (kd : KD κ) {E : τ → AV} {L : List (κ × τ)} {k : κ}
variable {F : Fr} {ds : List SD} {M : Type} {dm : M → List SD}
end
end
end S9.Tk
namespace S9
open PySem S3
noncomputable section
variable {F : Fr} {ds : List SD} {N S R M : Type} {D : Ds N S R M} {t : Ct N S R M}
end
end S9
end
section
set_option Elab.async false
set_option linter.all false
set_option maxRecDepth 100000
set_option maxHeartbeats 4000000
namespace S3
open PySem PySem.Spec PyProof.Rows L2
noncomputable section NC
section
variable {B : Bx} {X : Cx}
end
section
variable {B : Bx} {X : Cx} {W : WX}
section
variable {c P : Addr} {elt iter : Expr} {x x' : Str} {ifs : List Expr} {px px' pt p pos gpos : Pos} {kt : Nat} {scope : Scope} {k i i' : Nat} {qt : QT} {qe : QE} {mi : MA} {fn : String} {fin : List AV → Option AV} {fs : Str}
end
end
end NC
end S3
end
section
set_option Elab.async false
set_option linter.all false
set_option maxRecDepth 100000
set_option maxHeartbeats 4000000
namespace S3
open PySem PySem.Spec PyProof.Rows L2
noncomputable section NC
section
variable {B : Bx} {X : Cx} {sc : Scope} {W : WX}
end
end NC
end S3
namespace S9
open PySem S3
noncomputable section
variable {F : Fr} {ds : List SD}
end
end S9
namespace S3
end S3
namespace S9
open PySem PySem.Spec PyProof.Rows L2 S3
end S9
namespace S9
open PySem S3
noncomputable section
variable {F : Fr} {ds : List SD} {M : Type} {dm : M → List SD}
end
end S9
namespace S9.Tk
open PySem S3 S9
noncomputable section
variable {κ τ Y : Type} [DecidableEq κ]
variable (kd : KD κ) {E : τ → AV} {k : κ}
variable {F : Fr} {ds : List SD} {M : Type} {dm : M → List SD}
end
end S9.Tk
end
section
set_option Elab.async false
set_option linter.all false
set_option maxRecDepth 100000
set_option maxHeartbeats 4000000
namespace S3
open PySem PySem.Spec PyProof.Rows L2
noncomputable section NC
section
variable {prog : Program} {w : World} {A : Around} {E : Value → Shared → Prop} {s : Shared}
end
section
variable {B : Bx} {X : Cx} {W : WX}
end
section
variable {B : Bx} {X : Cx} {W : WX}
end
end NC
end S3
namespace S9.Tk
open PySem S3 S9
noncomputable section
variable {κ τ : Type} [DecidableEq κ]
variable (kd : KD κ) {E : τ → AV} {L : List (κ × τ)} {k : κ} {V V1 V2 : AH → AV → Prop}
variable {F : Fr} {ds : List SD}
end
end S9.Tk
end
section
set_option Elab.async false
set_option linter.all false
set_option maxRecDepth 100000
set_option maxHeartbeats 4000000
namespace S9
open PySem S3
noncomputable section
variable {F : Fr} {ds : List SD} {Y N S R M : Type} {D : Ds N S R M}
end
end S9
end
section
set_option Elab.async false
set_option linter.all false
set_option maxRecDepth 100000
set_option maxHeartbeats 4000000
namespace S3
open PySem PySem.Spec PyProof.Rows L2
noncomputable section NC
section
variable {X : Cx} {pins : List (Addr × Obj)} {σ : L2.St} {H : Hp} {s : Shared} {d : Addr} {o : Obj}
end
section
variable {P : Program} {w : World} {K : PySem.W.Frag} {d : Addr} {o : Obj} {es : Array DictEntry} {ep : Nat}
end
section
variable {X : Cx} {tg e : Expr} {td : TE} {apos cpos : Pos}
end
section
variable {B : Bx} {X : Cx} {W : WX} {e : Expr} {m : ME} {apos cpos : Pos}
end
end NC
end S3
namespace S9
open PySem PySem.Spec PyProof.Rows L2 S3
namespace Tk
noncomputable section
variable {κ τ : Type} [DecidableEq κ] (kd : KD κ) {F : Fr} {ds : List SD} {E : τ → AV} {L : List (κ × τ)}
end
end Tk
end S9
end
section
set_option Elab.async false
set_option linter.all false
set_option maxRecDepth 100000
set_option maxHeartbeats 4000000
namespace S3U
open PySem PySem.W PySem.Calls PyProof.Rows PySem.Spec
noncomputable section
section
variable {prog : Program} {w : World} {A : Around} {s : Shared} {β : Type} {kf : β → Str} {enc : β → PyData} {vs : List Value} {bs : List β}
structure KeyedU (kf : β → Str) (enc : β → PyData) (bs : List β) : Prop where
  tup : ∀ b ∈ bs, ∃ r, enc b = .tuple (.str (kf b) :: r)
  self : ∀ b ∈ bs, alike (enc b) (enc b) = true
  nd : (bs.map kf).Nodup
end
end
end S3U
namespace S3
open PySem PySem.Spec PyProof.Rows L2
noncomputable section NC
section
variable {B : Bx} {X : Cx} {W : WX}
end
end NC
end S3
end
section
set_option Elab.async false
set_option linter.all false
set_option maxRecDepth 100000
set_option maxHeartbeats 4000000
namespace S9
open PySem PySem.Spec PyProof.Rows L2 S3
noncomputable section
def eO : Option Int → AV
  | none => .non
  | some i => .int i
@[simp] theorem eO_none : eO none = .non := rfl
@[simp] theorem eO_some {i : Int} : eO (some i) = .int i := rfl
abbrev TO : Dt (Option Int) := ⟨eO, 1, fun x => by cases x <;> rfl, fun x => by cases x <;> simp [py, PyData.plain, eO], fun x => by cases x <;> simp [py, PyData.depth, eO], fun x y => by
  cases x <;> cases y
  · simp [eO, py, PyData.eqv]
  · simp [eO, py, PyData.eqv]
  · simp [eO, py, PyData.eqv]
  · rename_i i j
    show PyData.eqv (.int i) (.int j) = true ↔ _
    rw [eqv_int]; simp, fun x _ => by cases x <;> rfl⟩
def oInt (o : Option Int) : Int := o.getD 0
@[simp] theorem oInt_some {i : Int} : oInt (some i) = i := rfl
@[simp] theorem aeq_apl_O {x : Option Int} : APl (eO x) := apl_of TO
mutual
theorem alike_plain : ∀ d : PyData, d.plain = true → PySem.W.alike d d = true
  | .none, _ => rfl
  | .bool _, _ => rfl
  | .int _, _ => rfl
  | .str _, _ => rfl
  | .list xs, h => by
    rw [PySem.W.alike]
    exact alikeAll_plain xs (by simpa [PyData.plain] using h)
  | .tuple xs, h => by
    rw [PySem.W.alike]
    exact alikeAll_plain xs (by simpa [PyData.plain] using h)
  | .dict _, h => by simp [PyData.plain] at h
theorem alikeAll_plain : ∀ xs : List PyData, PyData.plainAll xs = true → PySem.W.alikeAll xs xs = true
  | [], _ => by simp [PySem.W.alikeAll]
  | x :: xs, h => by
    simp only [PyData.plainAll, Bool.and_eq_true] at h
    rw [PySem.W.alikeAll, alike_plain x h.1, alikeAll_plain xs h.2]
    rfl
end
section
variable {F : Fr} {ds : List SD} {V : AH → AV → Prop} {τ : Type}
end
end
end S9
end
section
set_option Elab.async false
set_option linter.all false
set_option maxRecDepth 100000
set_option maxHeartbeats 4000000
namespace S3S
open PySem PySem.W PySem.Calls PyProof.Rows PySem.Spec
section
variable {prog : Program} {w : World} {A : Around} {E : Value → Shared → Prop} {s : Shared} {T : String} {r d : Addr} {n : Nat} {P : Nat → Value → Prop} {OK : Heap → Prop}
end
end S3S
namespace S3
open PySem PySem.Spec PyProof.Rows L2
noncomputable section NC
section
variable {B : Bx} {X : Cx}
end
end NC
end S3
namespace S9
open PySem PySem.Spec PyProof.Rows L2 S3
noncomputable section
section
variable {F : Fr} {ds : List SD} {κ : Type} [DecidableEq κ] (kd : KD κ) {V : AH → AV → Prop}
end
end
end S9
end
section
set_option Elab.async false
set_option linter.all false
set_option maxRecDepth 100000
set_option maxHeartbeats 4000000
namespace S3
open PySem PySem.Spec PyProof.Rows L2
noncomputable section NC
section
variable {B : Bx} {X : Cx} {W : WX}
end
end NC
end S3
namespace S9
open PySem PySem.Spec PyProof.Rows L2 S3
noncomputable section
section
variable {F : Fr} {ds : List SD} {N S R M : Type} {D : Ds N S R M} {t : Ct N S R M} {h h' : AH}
theorem FAt.drop {f : Str} {a : AV} {o : LO} (n : NR a) : ∀ {fs : List (Str × FV)} {avs : List (Str × AV)} {A : List Nat}, fs.lookup f = some (.own o) → FAt h fs avs A → ∃ m A2, avs.lookup f = some (.ref m) ∧ h[m]? = some o.ao ∧ m ∈ A ∧ (∀ x ∈ A2, x ∈ A ∧ x ≠ m) ∧ ∀ h', (∀ x ∈ A2, h'[x]? = h[x]?) → FAt h' (putF f (.val a) fs) (putA f a avs) A2
  | [], _, _, e, _ => by cases e
  | (g, .val v) :: r, _, _, e, w => by
    obtain ⟨r', rfl, nv, w⟩ := w
    by_cases c : g = f
    · subst c
      rw [List.lookup_cons_self] at e
      cases e
    · have hb : (f == g) = false := beq_false_of_ne fun z => c z.symm
      rw [List.lookup_cons, hb] at e
      obtain ⟨m, A2, q1, q2, q3, q4, q5⟩ := FAt.drop n e w
      refine ⟨m, A2, by rw [List.lookup_cons, hb]; exact q1, q2, q3, q4, fun h' k => ?_⟩
      unfold putF putA
      rw [if_neg c, if_neg c]
      exact ⟨_, rfl, nv, q5 h' k⟩
  | (g, .own o') :: r, _, _, e, w => by
    obtain ⟨b, r', A1, rfl, e1, rfl, n1, w⟩ := w
    by_cases c : g = f
    · subst c
      rw [List.lookup_cons_self] at e
      cases e
      refine ⟨b, A1, List.lookup_cons_self, e1, List.mem_cons_self, fun x hx => ⟨List.mem_cons_of_mem _ hx, fun z => n1 (z ▸ hx)⟩, fun h' k => ?_⟩
      unfold putF putA
      rw [if_pos rfl, if_pos rfl]
      exact ⟨r', rfl, n, w.frame k⟩
    · have hb : (f == g) = false := beq_false_of_ne fun z => c z.symm
      rw [List.lookup_cons, hb] at e
      obtain ⟨m, A2, q1, q2, q3, q4, q5⟩ := FAt.drop n e w
      refine ⟨m, b :: A2, by rw [List.lookup_cons, hb]; exact q1, q2, List.mem_cons_of_mem _ q3, fun x hx => ?_, fun h' k => ?_⟩
      · rcases List.mem_cons.mp hx with rfl | hx
        · exact ⟨List.mem_cons_self, fun z => n1 (z ▸ q3)⟩
        · exact ⟨List.mem_cons_of_mem _ (q4 x hx).1, (q4 x hx).2⟩
      · unfold putF putA
        rw [if_neg c, if_neg c]
        exact ⟨b, _, A2, rfl, by rw [k b List.mem_cons_self]; exact e1, rfl, fun z => n1 (q4 b z).1, q5 h' fun x hx => k x (List.mem_cons_of_mem _ hx)⟩
  | (g, .oat b o') :: r, _, _, e, w => by
    obtain ⟨r', A1, rfl, e1, rfl, n1, w⟩ := w
    by_cases c : g = f
    · subst c
      rw [List.lookup_cons_self] at e
      cases e
    · have hb : (f == g) = false := beq_false_of_ne fun z => c z.symm
      rw [List.lookup_cons, hb] at e
      obtain ⟨m, A2, q1, q2, q3, q4, q5⟩ := FAt.drop n e w
      refine ⟨m, b :: A2, by rw [List.lookup_cons, hb]; exact q1, q2, List.mem_cons_of_mem _ q3, fun x hx => ?_, fun h' k => ?_⟩
      · rcases List.mem_cons.mp hx with rfl | hx
        · exact ⟨List.mem_cons_self, fun z => n1 (z ▸ q3)⟩
        · exact ⟨List.mem_cons_of_mem _ (q4 x hx).1, (q4 x hx).2⟩
      · unfold putF putA
        rw [if_neg c, if_neg c]
        exact ⟨_, A2, rfl, by rw [k b List.mem_cons_self]; exact e1, rfl, fun z => n1 (q4 b z).1, q5 h' fun x hx => k x (List.mem_cons_of_mem _ hx)⟩
def fvals : List (Str × FV) → Option (List (Str × AV))
  | [] => some []
  | (f, .val a) :: r => (fvals r).map ((f, a) :: ·)
  | _ => none
theorem FAt.vals : ∀ {fs : List (Str × FV)} {avs vs : List (Str × AV)} {A : List Nat}, fvals fs = some vs → FAt h fs avs A → avs = vs ∧ A = []
  | [], _, _, _, e, w => by
    cases e
    exact ⟨w.1, w.2⟩
  | (f, .val a) :: r, _, _, _, e, w => by
    obtain ⟨r', rfl, _, w⟩ := w
    obtain ⟨vs', e1, rfl⟩ := Option.map_eq_some_iff.mp e
    obtain ⟨rfl, rfl⟩ := FAt.vals e1 w
    exact ⟨rfl, rfl⟩
  | (f, .own o) :: r, _, _, _, e, _ => by cases e
  | (f, .oat b o) :: r, _, _, _, e, _ => by cases e
end
end
end S9
end
section
set_option Elab.async false
set_option linter.all false
set_option maxRecDepth 100000
set_option maxHeartbeats 4000000
namespace S3
open PySem PySem.Spec PyProof.Rows L2
noncomputable section NC
section
variable {B : Bx} {X : Cx} {W : WX}
end
end NC
end S3
namespace S9
open PySem PySem.Spec PyProof.Rows L2 S3
noncomputable section
section
variable {F : Fr} {ds : List SD} {N S R M : Type} {D : Ds N S R M} {t : Ct N S R M} {τ : Type}
end
end
end S9
end
section
set_option Elab.async false
set_option linter.all false
set_option maxRecDepth 100000
set_option maxHeartbeats 4000000
namespace S3
open PySem PySem.Spec PyProof.Rows L2
noncomputable section NC
section
variable {B : Bx} {X : Cx} {W : WX}
end
end NC
end S3
end
section
set_option Elab.async false
set_option linter.all false
set_option maxRecDepth 100000
set_option maxHeartbeats 4000000
namespace S9
open PySem PySem.Spec PyProof.Rows L2 S3
noncomputable section
variable {F : Fr} {ds : List SD} {M : Type} {dm : M → List SD} {τ : Type}
end
end S9
end
section
set_option Elab.async false
set_option linter.all false
set_option maxRecDepth 100000
set_option maxHeartbeats 4000000
namespace S9
open PySem PySem.Spec PyProof.Rows L2 S3
noncomputable section
variable {F : Fr} {ds : List SD}
end
end S9
end
section
set_option Elab.async false
set_option linter.all false
set_option maxRecDepth 100000
set_option maxHeartbeats 1000000
namespace S3Z
open PySem PySem.Spec PyProof.Rows
section
variable {prog : Program} {w : World} {A : Around} {E : Value → Shared → Prop} {s : Shared}
end
section
open L2
end
end S3Z
end
section
set_option Elab.async false
set_option linter.all false
set_option maxRecDepth 100000
set_option maxHeartbeats 4000000
namespace S3
open PySem PySem.Spec PyProof.Rows L2
noncomputable section NC
section
variable {B : Bx} {X : Cx} {W : WX}
end
end NC
end S3
end
section
set_option Elab.async false
set_option linter.all false
set_option maxRecDepth 100000
set_option maxHeartbeats 4000000
namespace S3Z
open PySem PySem.Spec PyProof.Rows
section
variable {prog : Program} {w : World} {A : Around} {E : Value → Shared → Prop} {s : Shared}
end
end S3Z
namespace S3
open PySem PySem.Spec PyProof.Rows L2
noncomputable section NC
section
variable {B : Bx} {X : Cx} {W : WX}
end
end NC
end S3
namespace S9
open PySem PySem.Spec PyProof.Rows L2 S3
noncomputable section
variable {F : Fr} {ds : List SD}
end
end S9
end
section
set_option Elab.async false
set_option linter.all false
set_option maxRecDepth 100000
set_option maxHeartbeats 4000000
namespace S9
open PySem PySem.Spec PyProof.Rows L2 S3
noncomputable section
variable {F : Fr} {ds : List SD} {M M' Y Z : Type} {dm : M → List SD}
theorem own_ins {i : Nat} {d : SD} {c mn : Str} {fs : List (Str × FV)} {s : Sl} {h : AH} (e : ds[i]? = some d) (ho : d.isO (.ins c fs)) (en : fs.lookup mn = none) (w : EnvP F ds s h) : ∃ b avs, s[i]? = some (some (.ref b)) ∧ vIns c h (.ref b) = some avs ∧ avs.lookup mn = none := by
  obtain ⟨fp, w'⟩ := w
  obtain ⟨b, e2, ⟨avs, A', e3, wf, _⟩, _⟩ := w'.getO e ho
  refine ⟨b, avs, e2, vIns_ref e3, ?_⟩
  clear ho e3
  revert wf
  generalize A' = A
  intro wf
  induction fs generalizing avs A with
  | nil => obtain ⟨rfl, _⟩ := wf; rfl
  | cons p r ih =>
    obtain ⟨f', x⟩ := p
    rw [List.lookup_cons] at en
    cases k : mn == f' with
    | true => rw [k] at en; cases en
    | false =>
      rw [k] at en
      cases x with
      | val a =>
        obtain ⟨r', rfl, _, wf⟩ := wf
        rw [List.lookup_cons, k]
        exact ih en _ _ wf
      | own o =>
        obtain ⟨b', r', A2, rfl, _, _, _, wf⟩ := wf
        rw [List.lookup_cons, k]
        exact ih en _ _ wf
      | oat b' o =>
        obtain ⟨r', A2, rfl, _, _, _, wf⟩ := wf
        rw [List.lookup_cons, k]
        exact ih en _ _ wf
end
end S9
end
section
set_option Elab.async false
set_option linter.all false
set_option maxRecDepth 100000
set_option maxHeartbeats 4000000
namespace S9
open PySem PySem.Spec PyProof.Rows L2 S3
noncomputable section
variable {F : Fr} {ds : List SD} {M X τ : Type} {dm : M → List SD}
end
end S9
end
section
set_option Elab.async false
set_option linter.all false
set_option maxRecDepth 100000
set_option maxHeartbeats 4000000
namespace S3
open PySem PySem.Spec PyProof.Rows L2
noncomputable section NC
section
variable {B : Bx} {X : Cx} {W : WX}
def gSplitS : GM := fun a as h => match a, as with
  | .str x, [.str y] => if (y.length == 0) = false ∧ x.length + 2 ≤ sizeLine then some (.lst ((Txt.split x y).map AV.str), h) else none
  | _, _ => none
theorem strs_rvs {ρ : List Addr} {F : Hp} : ∀ L : List Str, RVs B ρ F (L.map AV.str) (L.map V.str)
  | [] => rfl
  | x :: L => ⟨V.str x, L.map V.str, rfl, rfl, strs_rvs L⟩
theorem mt_gSplitS : MtR X "str.split" (rmM B gSplitS) := by
  intro pins s σ H x xs v us Q I rx rxs hh
  obtain ⟨ρ, F, h, a, as, c, h', hr, ra, rs, eg, q⟩ := hh
  unfold gSplitS at eg
  split at eg
  · rename_i t u
    split at eg
    · rename_i g
      cases eg
      have ra : x = .str t := ra
      subst ra
      obtain ⟨y, ey, ry⟩ := rs.one
      subst ey
      have ry : y = .str u := ry
      subst ry
      refine L2.mt_split pins s σ H (.str t) [.str u] v us Q I rx rxs ⟨t, u, rfl, rfl, g.1, g.2, fun p hp => ?_⟩
      obtain ⟨hr2, ex2⟩ := hr.newF hp (.lst ((Txt.split t u).map V.str))
      exact q _ _ _ _ ex2 hr2 ⟨p, _, rfl, .inl upd_same, strs_rvs _⟩
    · cases eg
  · cases eg
def signsV (t : Str) : List V := t.cps.toList.map fun c => V.str ⟨#[c]⟩
def signsA (t : Str) : List AV := t.cps.toList.map fun c => AV.str ⟨#[c]⟩
def mSeqS (m : ME) : MA := fun s h => (m s h).bind fun a h1 => match a with
  | .str x => .ok (signsA x) h1
  | _ => .stk
theorem signs_rvs {ρ : List Addr} {F : Hp} : ∀ L : List Nat, RVs B ρ F (L.map fun c => AV.str ⟨#[c]⟩) (L.map fun c => V.str ⟨#[c]⟩)
  | [] => rfl
  | x :: L => ⟨_, _, rfl, rfl, signs_rvs L⟩
theorem gsn_str {e : Expr} {m : ME} (he : SE B X W e m) : GSN B X W e (mSeqS m) := by
  intro pins s σ H R I h
  obtain ⟨ρ, F, h0, s0, sr, hr, p⟩ := h
  have run := he.run pins s σ H (fun x H1 => ∃ t : Str, x = .str t ∧ R (signsV t) H1) I ⟨ρ, F, h0, s0, sr, hr, p.andThen fun a h1 ρ1 F1 H1 x _ e1 hr1 ra p1 => by
    cases a with
    | str t =>
      have ra : x = .str t := ra
      exact ⟨t, ra, p1 _ _ _ _ Ext.refl hr1 (signs_rvs _)⟩
    | _ => exact p1.elim⟩
  refine thn run fun xv s1 ⟨x, H1, I1, r1, t, ex, hR⟩ => ⟨H1, signsV t, I1, hR, ?_⟩
  subst ex
  obtain ⟨k, rfl⟩ := r1
  refine wpAny_pyIter_str fun o St Wk hst => ?_
  have hl : (signsV t).length = t.cps.size := by unfold signsV; simp
  refine ⟨⟨s1.heap.objs.size, [s1.heap.objs.size], [s1.heap.objs.size], SignAt t, St, rfl, fun A' hA => by rw [hl]; exact Wk A' hA, fun i v ⟨c, u, hc, hv⟩ => ?_, hst, fun b hb => ?_, fun b hb => ?_, fun b hb ps hps => ?_⟩, ⟨_, s1.toks, rfl, fun b o e => Heap.get?_push_of_some _ e, by rw [Heap.size_push]; exact Nat.le_succ _⟩⟩
  · refine ⟨.str ⟨#[c]⟩, ?_, u, hv⟩
    unfold signsV
    rw [List.getElem?_map, Array.getElem?_toList, hc]; rfl
  · obtain rfl : b = s1.heap.objs.size := by simpa using hb
    show s1.heap.objs.size < (s1.heap.push _).objs.size
    rw [Heap.size_push]; exact Nat.lt_succ_self _
  · obtain rfl : b = s1.heap.objs.size := by simpa using hb
    exact Nat.le_refl _
  · obtain rfl : b = s1.heap.objs.size := by simpa using hb
    rw [I1.hok.fresh (Nat.le_refl _)] at hps
    cases hps
def gIntS : GL := fun as _ => match as with
  | [.str x] => match PySem.intText? x with
    | some n => if x.length ≤ 640 then some (.int n) else none
    | none => none
  | _ => none
theorem cr_gIntS : CallR X (.type "int") (rmL B gIntS) := by
  intro pins s σ H xs us Q I r hh
  obtain ⟨ρ, F, h, as, c, hr, ra, ec, q⟩ := hh
  unfold gIntS at ec
  split at ec
  · rename_i x
    split at ec
    · rename_i n en
      split at ec
      · rename_i hl
        cases ec
        obtain ⟨v, rfl, rv⟩ := ra.one
        have rv : v = .str x := rv
        subst rv
        exact L2.call_int_str pins s σ H _ us Q I r ⟨x, n, rfl, en, hl, q _ _ _ _ Ext.refl hr rfl⟩
      · cases ec
    · cases ec
  · cases ec
end
end NC
end S3
namespace S9
open PySem PySem.Spec PyProof.Rows L2 S3
noncomputable section
variable {F : Fr} {ds : List SD}
def SpOk (x y : Str) : Prop := (y.length == 0) = false ∧ x.length + 2 ≤ sizeLine
theorem pe_splitS {o e : ME} {x y : Str} (p : PE F ds o (.str x)) (q : PE F ds e (.str y)) (g : SpOk x y) : PE F ds (mBM tyS gSplitS o (mCons e mNil)) (.lst ((Txt.split x y).map AV.str)) := fun s h w => by
  rw [ap_bm, p s h w, bind_ok, if_pos (show tyS (.str x) h = true from rfl), ap_cons, q s h w]
  show (match gSplitS (.str x) [.str y] h with
    | some (c, h3) => Rs.ok c h3
    | none => .stk) = _
  have : gSplitS (.str x) [.str y] h = some (.lst ((Txt.split x y).map AV.str), h) := if_pos g
  rw [this]
theorem pa_signs {e : ME} {x : Str} (p : PE F ds e (.str x)) : PA F ds (mSeqS e) ((strChs x).map AV.str) := fun s h w => by
  show (e s h).bind _ = _
  rw [p s h w, bind_ok]
  show Rs.ok (signsA x) h = _
  unfold signsA strChs
  rw [List.map_map]; rfl
def InOk (x : Str) : Prop := (PySem.intText? x).isSome = true ∧ x.length ≤ 640
def intS (x : Str) : Int := (PySem.intText? x).getD 0
theorem op_intS {x : Str} (g : InOk x) : ∀ h, gIntS [.str x] h = some (.int (intS x)) := fun h => by
  unfold gIntS intS
  obtain ⟨n, e⟩ := Option.isSome_iff_exists.mp g.1
  simp only [e, if_pos g.2]
  rfl
end
end S9
end
section
set_option Elab.async false
set_option linter.all false
set_option maxRecDepth 100000
set_option maxHeartbeats 4000000
namespace S3
open PySem PySem.Spec PyProof.Rows L2 NdefX
section
open PySem.W PySem.Calls
variable {prog : Program} {w : World} {A : Around} {E : Value → Shared → Prop} {h : Heap} {g : Array GenState} {d : Drawn} {t : Nat} {os : OsState}
variable {nm q : Str} {C N : Addr} {bs bm : List Value} {hdct : Bool} {sn : List Str} {sub : List Value} {ab : Bool} {col : Option Bool} {dd : Option Addr} {k0 k1 k2 k3 k5 : Option Value}
theorem call_veW {u e t0 : Addr} {rest : List Value} {Q : Value → Shared → Prop}
    (hC : h.get? C = some (excClassObj nm q C N bs bm hdct sn sub ab col dd k0 k1 k2 k3 k5 "ValueError.__new__")) (he : h.get? e = some (HandSPX.excO C t0)) (hu : h.get? u = some (kxs_mw "ValueError.__init__" e)) (hrest : rest.length ≤ sizeLine)
    (hq : ∀ h' t1, (∀ b o, b ≠ e → h.get? b = some o → h'.get? b = some o) → h'.get? e = some (HandSPX.excO C t1) → Q .none ⟨h', g, d, t, os⟩) :
    wpAny (model prog w) A (call (.ref u) rest) Q E ⟨h, g, d, t, os⟩ := by
  refine wpAny_call (codeAny_of_tree ?_)
  show wpAny _ A.in1 (callAny (.ref u) ⟨rest, []⟩) _ _ _
  simp only [callAny]
  refine wpAny_bind (wpAny_load hu ?_)
  simp only [kxs_mw, show (Value.type "method-wrapper" == Value.type "method" || Value.type "method-wrapper" == Value.type "builtin_function_or_method" || Value.type "method-wrapper" == Value.type "method-wrapper") = true by decide, if_true]
  refine W.KFB.if_so (by decide) ?_
  refine wpAny_bind (PySem.ESX.check_bound F.excBase_ValueError hC he rfl ?_)
  refine wpAny_bind (wpAny_pure (wpAny_pure ?_))
  refine ⟨Code.quiet_builtin _ (by decide +kernel), codeAny_builtin F.excBase_ValueError.initEntry ?_⟩
  rw [Around.under_plainId F.excBase_ValueError.init.plain _]
  wp_walk
  refine hq _ h.objs.size (fun b o hb ho => ?_) ?_
  · rw [Heap.get?_update_other _ _ (Ne.symm hb)]
    exact Heap.get?_push_of_some _ ho
  · rw [Heap.get?_update_self _ (Heap.get?_push_of_some _ he) rfl]
    rfl
end
/-- what the written part tells of super() in the method f of the class C -/
structure SupF (X : Cx) (f cc cda C : Addr) (slf : Str) : Prop where
  fun_ : ∃ oc od fd osl ar, X.K.lookup f = some ⟨oc, od, .func fd, osl⟩ ∧ (fd.params.posonlyargs ++ fd.params.args).head? = some ar ∧ ar.arg = slf
  code : ∃ ccl cdd vs ccs file tf, X.K.lookup cda = some ⟨ccl, cdd, .fields vs, ccs⟩ ∧ vs[2]? = some (.str file tf) ∧ ((X.prog.main.file : Str) == file) = true
  cell : ∃ cl cld csl, X.K.lookup cc = some ⟨cl, cld, .cell (some (.ref C)), csl⟩
  envF : X.env.func = some f
  envC : X.env.code = .ref cda
  envc : X.env.cells.lookup ("__class__" : Str) = some cc
  ks : X.env.kindOf "super" = some .globalImplicit
  kc : X.env.kindOf "__class__" = some .free
  ka : X.env.kindOf slf = some .local
  mg : X.mg "super" = none
  top : (X.prog.main.scope.names.lookup ("super" : Str)).isSome = false
  any : PySem.W.nsIn X.K PySem.cStatics "thirdparty.any" = some none
  own : PySem.W.mroIn X.K C (.ref C) = some true
  sub : PySem.W.subIn X.K (.ref C) (.type "ValueError") = some true
  ini : ∀ cd, PySem.W.clsIn X.K C = some cd → PySem.W.alongIn X.K "__init__" ((cd.mro.dropWhile (· != .ref C)).drop 1) = some (some (.builtin "ValueError.__init__"))
section
variable {X : Cx} {pins : List (Addr × Obj)} {σ : L2.St} {H : Hp} {s : Shared} {E : Value → Shared → Prop} {a f cc cda C : Addr} {slf : Str} {ta : TA} {e : Expr} {es : List Expr} {p0 p1 p2 p3 pos : Pos} {pl : Sem Bool} {body : List Stmt} {i : Nat}
theorem super_ok {W0 : Hp → Prop} (G : SupF X f cc cda C slf) (T : OexC X.K C) (I : Inv X pins σ H s) (ea : H a = some (exo a C none)) (hi : X.N[i]? = some slf) (hs : σ[i]? = some (some (.ref a)))
    (ha : PA X (e :: es) ta) (h : ta σ H fun vs H1 => vs.length ≤ 1000 ∧ H1 a = some (exo a C none) ∧ W0 H1)
    (hc : eval (.Call (.Attribute (.Call (.Name "super" p0) [] [] p1) "__init__" p2) (e :: es) [] p3) X.env = (do
      let ov ← attributeBase (.Call (.Name "super" p0) [] [] p1) "__init__" X.env (eval (.Call (.Name "super" p0) [] [] p1) X.env)
      standAt p2.atName
      let (f, first) ← holding [ov] (getMethod ov "__init__" pl)
      callWith p3 f first (backTo p3 (starEach (e :: es) X.env)) []) := by rfl)
    (he : starEach (e :: es) X.env = (false, eval e X.env) :: starEach es X.env := by rfl) (hpl : (backTo p3 (starEach es X.env)).any (·.1) = false := by rfl)
    (hin : interactive X.env = false := by rfl) (hsw : swapsWith (.Call (.Attribute (.Call (.Name "super" p0) [] [] p1) "__init__" p2) (e :: es) [] p3) none pos.line X.env = pure false := by rfl) :
    PySem.wpAt (model X.prog X.w) X.A (.func body X.env) (exec (.Expr (.Call (.Attribute (.Call (.Name "super" p0) [] [] p1) "__init__" p2) (e :: es) [] p3) pos) X.env)
      (fun fl s' => fl = .next ∧ ∃ H1, Inv X pins σ H1 s' ∧ W0 H1) X.xe s := by
  obtain ⟨oc, od, fd, osl, ar, hf, hp, har⟩ := G.fun_
  obtain ⟨ccl, cdd, vs, ccs, file, tf, hcode, hvs, hfile⟩ := G.code
  obtain ⟨cl, cld, csl, hcell⟩ := G.cell
  obtain ⟨nm, q, N, bs, bm, sn, sub, ab, col, dd, k0, k1, k2, k3, k5, hC, hbm⟩ := T.cls
  have hcl : PySem.W.clsIn X.K C = some { name := nm, bases := bs, mro := .ref C :: bm, ns := N, qualname := q, hasDict := true, slotNames := sn, subclasses := sub, abstract := ab, collection := col, hasDel := false } := by unfold PySem.W.clsIn; rw [hC] <;> rfl
  have KX := I.kIn
  obtain ⟨t1, ho⟩ := exo_at I.hok ea
  have hac : a ≠ C := fun z => by
    have y := KX _ _ hC
    rw [← z, ho] at y
    cases y
  obtain ⟨m, hn, hlk⟩ := id I.loc
  obtain ⟨u, hu, hlook⟩ := hlk i slf (.ref a) hi hs (.inl G.ka)
  obtain rfl : u = Value.ref a := hu
  have hma : m slf = some (.ref a) := by
    rcases hlook with ⟨_, z⟩ | ⟨z, _⟩
    · exact z
    · rw [G.ka] at z
      rcases z with z | z <;> cases z
  refine PySem.ks_wpAt_Expr_any (PySem.ks_wpAt_MethodCall (pl := pl) ?_ hc) hin hsw
  refine PySem.ks_wpAt_super_base (env := X.env) G.ks G.kc (by decide) G.envF (KX _ _ hf) rfl hp G.envC (KX _ _ hcode) rfl hvs hfile G.top ?_
  obtain ⟨mb, b1, b2⟩ := I.mod.blt
  refine PySem.W.ks_loadName_global I.ok.kind G.ks (PySem.Calls.loadGlobal_builtin (by rw [I.ok.glob]; exact I.mod.glob.keeps I.bk) G.mg (by rw [I.ok.blt]; exact b1.keeps I.bk) ((b2 _ (by decide)).trans (show bootBuiltins "super" = some (.type "super") from PyProof.Rows.Boot.«super»)) ⟨rfl, ?_⟩)
  refine wpAny_loadName_free I.ok.kind G.kc G.envc ⟨_, KX _ _ hcell, rfl⟩ ?_
  rw [har]
  refine wpAny_loadName_local I.ok.kind G.ka hn hma ?_
  obtain ⟨hh, g, d, t, os⟩ := s
  have hD := KX _ _ hC
  refine PySem.ks_wpAny_isType_cls hD rfl ⟨rfl, ?_⟩
  refine PySem.ks_wpAny_call_super hD rfl ho rfl (fun c z => by cases z) (PySem.W.looks_mroIn KX G.own) (fun h' e1 k => ?_)
  have I1 : Inv X pins σ H ⟨h', g, d, t, os⟩ := I.kept (t' := t) k
  have KX1 := I1.kIn
  have ho1 := k _ _ ho
  have Ia : PySem.W.InstAt h' a { cls := .ref C, dict := none, data := .fields #[.ref t1, .none, .none, .none, .bool false, .none] } C none := ⟨ho1, rfl, rfl, trivial⟩
  refine PySem.W.kxs_getMethod PySem.W.kxs_ValueError e1 (PySem.W.looks_opaque KX1 G.any) ((PySem.W.looks_clsIn KX1 hcl).andThen .now) rfl KX1 (G.ini _ hcl) (Ia.type.andThen (PySem.W.looks_subIn KX1 G.sub)) hac (by decide) ?_
  have I2 : Inv X pins σ H ⟨h'.push (PySem.W.kxs_mw "ValueError.__init__" a), g, d, t + 1, os⟩ := I1.kept (t' := t + 1) fun b o z => Heap.get?_push_of_some _ z
  have hmw : (h'.push (PySem.W.kxs_mw "ValueError.__init__" a)).get? h'.objs.size = some (PySem.W.kxs_mw "ValueError.__init__" a) := Heap.get?_push_at rfl rfl
  have I3 : Inv X ((h'.objs.size, PySem.W.kxs_mw "ValueError.__init__" a) :: pins) σ H ⟨h'.push (PySem.W.kxs_mw "ValueError.__init__" a), g, d, t + 1, os⟩ := I2.pins_of fun p hp => by
    rcases List.mem_cons.mp hp with z | z
    · subst z
      exact ⟨hmw, I1.hok.fresh (Nat.le_refl _), fun y => Nat.lt_irrefl h'.objs.size (by
        have z := I1.lt
        rw [← (show h'.objs.size = X.env.locals from y)] at z
        exact z), I1.nofs (Nat.le_refl _), fun v y => by cases y⟩
    · exact I2.pin p (List.mem_append_right _ z)
  refine PySem.W.kxs_callWith (i := "ValueError.__init__") (x := a) (by rw [he]; show (false || (backTo p3 (starEach es X.env)).any (·.1)) = false; rw [hpl]; rfl) ?_
  rw [he]
  have hr := ha.run p3 _ _ σ H _ I3 h
  rw [he] at hr
  refine PySem.Calls.evalArgs_plain (thn hr fun us s1 ⟨vs1, H1, I4, r4, hl, ea1, w0⟩ => ?_)
  have pu := I4.pin (h'.objs.size, PySem.W.kxs_mw "ValueError.__init__" a) (List.mem_append_right _ (.head _))
  obtain ⟨t4, ho4⟩ := exo_at I4.hok ea1
  refine ⟨pu.1, ?_⟩
  obtain ⟨h4, g4, d4, tk4, os4⟩ := s1
  refine call_veW (I4.kIn _ _ hC) ho4 pu.1 (by rw [List.nil_append, ← Paired.length r4, sizeLine_eq]; omega) fun h5 t5 k5 e5 => ?_
  have J := I4.write (t' := tk4) (x := a) (e := a) (o := exo a C none) (by rw [ea1]; exact True.intro) (.inl rfl) k5 ⟨_, e5⟩ (exo_ok e5)
  have eu : upd H1 a (exo a C none) = H1 := by
    funext b
    by_cases hb : b = a
    · rw [hb, upd_same, ea1]
    · rw [upd_ne hb]
  rw [eu] at J
  exact ⟨rfl, H1, J.pins_of fun p hp => J.pin p (List.mem_append_right _ (.tail _ hp)), w0⟩
end
section
variable {CX : CXT} {P : Program} {w : World} {K : PySem.W.Frag} {mg : Str → Option Value} {base : Heap} {k : Nat} {f : Addr} {name qual : Str} {params : Arguments} {st0 : Stmt} {body : List Stmt} {scope : Scope} {dV kV doc pm ct oc : Value} {cda cc C : Addr} {an od : Option Addr}
  {osl : Array (Option Value)} {N ps : List Str} {sp : Sp}
/-- the words of such a method -/
def supNF (name qual : Str) (params : Arguments) (body : List Stmt) (scope : Scope) (cc cda : Addr) : NF := ⟨name, qual, params, body, scope, [("__class__", cc)], cda⟩
theorem cellsS {s : Shared} {H : Hp} {A : Around} {outer : List Env} (e0 : Env0 P w K mg base A outer s H) (hcell : ∃ cl cld csl, K.lookup cc = some ⟨cl, cld, .cell (some (.ref C)), csl⟩) :
    CellsAt [("__class__", cc)] ["__class__"] [none] s.heap H := by
  obtain ⟨cl, cld, csl, hk⟩ := hcell
  have hb := e0.bs cc _ (e0.mod.kin _ _ hk)
  have one : ∀ {y : Str} {c : Addr}, ([(("__class__" : Str), cc)] : List (Str × Addr)).lookup y = some c → y = "__class__" ∧ c = cc := fun {y c} z => by
    simp only [List.lookup] at z
    split at z
    · rename_i hy
      cases z
      exact ⟨by simpa using hy, rfl⟩
    · cases z
  refine ⟨rfl, fun y c z => ?_, fun x y c zx zy => (one zx).1.trans (one zy).1.symm, fun i y z => ?_⟩
  · rw [(one z).2]
    exact ⟨hb.2, _, _, hb.1, rfl⟩
  · match i, z with
    | 0, z =>
      cases z
      exact ⟨cc, by simp [List.lookup], fun v y => by cases y⟩
    | i + 1, z => simp at z
/-- a method whose first statement is super().__init__(..) -/
theorem fn_ofS (lk : K.lookup f = some ⟨oc, od, .func (PySem.W.fnX name qual params (st0 :: body) scope [("__class__", cc)] dV kV doc pm an (.ref cda) ct), osl⟩) (hcd : PySem.W.codeIn K (.ref cda) qual = true)
    (S : NScope N ps ["__class__"] scope) (hcell : ∃ cl cld csl, K.lookup cc = some ⟨cl, cld, .cell (some (.ref C)), csl⟩) (len : ∀ vs H Q E, sp vs H Q E → vs.length = ps.length)
    (hbody : ∀ (A : Around) (outer : List Env) (s : Shared) (H : Hp) (vs : List V) (Q : VK) (E : XK), Room k (A.deeper (envF (supNF name qual params (st0 :: body) scope cc cda) f s.heap.objs.size)) → sp vs H Q E →
      ∃ (W0 : Hp → Prop) (t : TS), (∀ s1, Inv (ncx CX P w K mg base N (supNF name qual params (st0 :: body) scope cc cda) f A outer s H E) [] (startF N vs [none]) H s1 →
        PySem.wpAt (model P w) (A.deeper (envF (supNF name qual params (st0 :: body) scope cc cda) f s.heap.objs.size)) (.func (st0 :: body) (envF (supNF name qual params (st0 :: body) scope cc cda) f s.heap.objs.size))
          (exec st0 (envF (supNF name qual params (st0 :: body) scope cc cda) f s.heap.objs.size))
          (fun fl s' => fl = .next ∧ ∃ H1, Inv (ncx CX P w K mg base N (supNF name qual params (st0 :: body) scope cc cda) f A outer s H E) [] (startF N vs [none]) H1 s' ∧ W0 H1)
          (ncx CX P w K mg base N (supNF name qual params (st0 :: body) scope cc cda) f A outer s H E).xe s1) ∧
        PSs (ncx CX P w K mg base N (supNF name qual params (st0 :: body) scope cc cda) f A outer s H E) body t ∧ ∀ H1, W0 H1 → t { nx := fun _ H' => Q .non H', rt := Q } (startF N vs [none]) H1) :
    FnOk P w K mg base CX (k + 1) f (PySem.W.fnX name qual params (st0 :: body) scope [("__class__", cc)] dV kV doc pm an (.ref cda) ct) ps sp := by
  refine ⟨len, fun A outer s H args us vs Q E hr e0 hb r hsp => ?_⟩
  have hl := len _ _ _ _ hsp
  have KX : K.In s.heap := e0.mod.kin.keeps fun b o e => (e0.bs b o e).1
  have lim : s.heap.NoLimit := e0.mod.nolimit.keeps fun b o e => (e0.bs b o e).1
  refine PySem.ks_codeAny_call_defAt (fd := PySem.W.fnX name qual params (st0 :: body) scope [("__class__", cc)] dV kV doc pm an (.ref cda) ct) (body := st0 :: body) (binds := ps.zip us) hr.depth (KX _ _ lk) rfl lim (PySem.W.codeRec_of KX hcd) rfl hb
    S.nocell (fun ⟨n, _⟩ hy => S.par n (List.of_mem_zip hy).1) (fun h₀ hns kp => ?_) S.co S.gen S.kind
  obtain ⟨W0, t, h0, ht, hq⟩ := hbody A outer s H vs Q E (hr.deeper _) hsp
  have I : Inv (ncx CX P w K mg base N (supNF name qual params (st0 :: body) scope cc cda) f A outer s H E) [] (startF N vs [none]) H { s with heap := h₀, toks := s.toks + (ps.zip us).length } := inv_startN S hr.hd e0 hl r (cellsS e0 hcell) hns kp
  have fin : ∀ {σ' : L2.St} {H' : Hp} {v : V} {u : Value} {s' : Shared}, Inv (ncx CX P w K mg base N (supNF name qual params (st0 :: body) scope cc cda) f A outer s H E) [] σ' H' s' → L2.RelV v u → Q v H' → CE outer P w H s Q u s' :=
    fun {σ' H' v u s'} J rv q => ⟨v, H', J.os, J.bare, J.base, J.hok, rv, q⟩
  refine PySem.ks_wpAt_mono (Q := L2.SP (ncx CX P w K mg base N (supNF name qual params (st0 :: body) scope cc cda) f A outer s H E) [] { nx := fun _ H' => Q .non H', rt := Q }) (PySem.ks_wpAt_execs_cons (PySem.ks_wpAt_mono (h0 _ I) (fun fl s' z => ?_) fun _ _ z => z)) (fun fl s' hs => ?_) fun e s' hs => hs
  · obtain ⟨ef, H1, J, w0⟩ := z
    subst ef
    exact PySem.wpAt_of_wpAny (ht.run [] s' _ H1 _ J (hq H1 w0))
  · cases fl with
    | ret u =>
      obtain ⟨v, σ', H', J, rv, q⟩ := hs
      exact fin J rv q
    | next =>
      obtain ⟨σ', H', J, q⟩ := hs
      exact fin (v := V.non) (u := Value.none) J rfl q
    | brk =>
      obtain ⟨_, _, _, q⟩ := hs
      exact False.elim q
    | cont =>
      obtain ⟨_, _, _, q⟩ := hs
      exact False.elim q
end
end S3
end
section
set_option Elab.async false
set_option linter.all false
set_option maxRecDepth 100000
set_option maxHeartbeats 4000000
namespace S3
open PySem PySem.Spec PyProof.Rows L2 NdefX
/-- what such an __init__ promises -/
def iniSp (C : Addr) (f : Str) : Sp := fun vs H Q _ => ∃ (a : Addr) (v : V), vs = [.ref a, v] ∧ H a = some (exo a C none) ∧ ∀ dx, H dx = none → dx ≠ a → Q .non (upd (upd H dx (exd dx [(f, v)])) a (exo a C (some dx)))
noncomputable section NC
section
variable {B : Bx} {X : Cx} {W : WX}
/-- raise C(e): the field f bears e's value -/
def mRaiseI (c f : Str) (ma : MA) : MS := fun s h => (ma s h).toS s fun as h1 => match as with
  | [a] => .exc s c [(f, a)] h1
  | _ => .stk
theorem ss_raiseI {x f : Str} {e : Expr} {ma : MA} {p p3 pos : Pos} {C fI : Addr} {k : Nat} {fd : FuncData} {ps : List Str} (gC : B.mg x = some (.ref C)) (T : OexC X.K C) (iC : PySem.W.findIn X.K (.ref C) "__init__" = some (some (.ref fI))) (tI : PySem.W.typeIn X.K (.ref fI) = some (.type "function"))
    (F1 : FnOk X.prog X.w X.K X.mg X.base (L2.CX X.prog X.w) k fI fd ps (iniSp C f)) (hr : Room (k + 1) X.A) (hb : Binds X.K fd ps []) (tk : Takes X W) (hc : X.calm = true) (ha : SA B X W [e] ma) (he : starEach [e] X.env = (false, eval e X.env) :: starEach [] X.env := by rfl)
    (hmg : X.mg = B.mg := by rfl) (hg : Gl X x := by rfl) (hdb : (x == ("__debug__" : Str)) = false := by decide) : SS B X W (.Raise (some (.Call (.Name x p) [e] [] p3)) none pos) (mRaiseI x f ma) :=
  PS.imp (ps_raise hc tk (pmk_oex T iC tI F1 hr hb (ds := []) (dvs := []) .nil (passes_call tk fun _ _ _ _ z => z.elim) hg (by rw [hmg]; exact gC) ha hdb he (by rfl))) fun D σ H ⟨ρ, F, h, s, sr, hr, p⟩ =>
    ⟨ρ, F, h, s, sr, hr, PostS.expr sr p fun as h1 ρ1 F1 H1 vs _ e1 hr1 ra sr1 p1 => by
      split at p1
      · rename_i a
        obtain ⟨v, ev, rv⟩ := RVs.one ra
        subst ev
        refine ⟨by simp, fun q hq => ⟨q, v, rfl, upd_same, fun dx hd ne => ⟨rfl, dx, [(f, v)], upd_same, ?_, ?_, ?_⟩⟩⟩
        · rw [upd_ne ne, upd_same]
        · rw [upd_ne ne] at hd
          exact hd
        · rw [upd_ne ne] at hd
          have eH : upd (L2.del (upd (upd (upd H1 q (exo q C none)) dx (exd dx [(f, v)])) q (exo q C (some dx))) q) dx (.xd [(f, v)]) = upd H1 dx (.xd [(f, v)]) := by
            funext b
            by_cases hb : b = dx
            · rw [hb, upd_same, upd_same]
            · rw [upd_ne hb, upd_ne hb]
              by_cases hq' : b = q
              · rw [hq', L2.del_same, hq]
              · rw [L2.del_ne hq', upd_ne hq', upd_ne hb, upd_ne hq']
          rw [eH]
          obtain ⟨hr2, ex2⟩ := hr1.newP hd (.xd [(f, v)])
          exact p1 ρ1 F1 _ σ _ _ ex2 hr2 sr1 ⟨C, gC, rfl, .inr ⟨dx, [(f, v)], rfl, upd_same, v, [], rfl, rv, rfl⟩⟩
      · exact p1.elim⟩
end
end NC
end S3
end
section
set_option Elab.async false
set_option linter.all false
set_option maxRecDepth 100000
set_option maxHeartbeats 4000000
namespace S3
open PySem PySem.Spec PyProof.Rows L2 NdefX
theorem oex_of {K : PySem.W.Frag} {C : Addr} {dd : Option Addr} {cd : ClassData} {bm : List Value} {k0 k1 k2 k3 k5 : Option Value} (h : K.lookup C = some (⟨.type "type", dd, .cls cd, #[k0, k1, k2, k3, some (.builtin "ValueError.__new__"), k5]⟩ : Obj)) (hm : cd.mro = .ref C :: bm) (hd : cd.hasDict = true) (hl : cd.hasDel = false)
    (hr : HandSPX.refsVE bm = true) (sa : PySem.W.findIn K (.ref C) "__setattr__" = some (some (.builtin "object.__setattr__"))) (exC : PySem.W.subIn K (.ref C) (.type "BaseException") = some true) (tyC : PySem.W.typeIn K (.ref C) = some (.type "type")) (kC : PySem.W.keepIn K (.ref C) = true) : OexC K C := by
  obtain ⟨nm, bs, mro, ns, qn, hdct, sn, sub, ab, col, del⟩ := cd
  dsimp only at hm hd hl
  subst hm hd hl
  exact ⟨⟨nm, qn, ns, bs, bm, sn, sub, ab, col, dd, k0, k1, k2, k3, k5, h, hr⟩, sa, exC, tyC, kC⟩
/-- the class C, over ValueError, has its __init__ at fI: a method of one further parameter, with super() -/
def iniB (K : PySem.W.Frag) (C fI : Addr) (qual f file : Str) : Bool :=
  ((match K.lookup C with
    | some ⟨.type "type", _, .cls cd, sl⟩ => (match cd.mro, sl.toList with
      | .ref C' :: bm, [_, _, _, _, some (.builtin n), _] => decide (C' = C) && decide (n = "ValueError.__new__") && !cd.hasDel && cd.hasDict && HandSPX.refsVE bm
      | _, _ => false)
    | _ => false) && (decide (PySem.W.findIn K (.ref C) "__setattr__" = some (some (.builtin "object.__setattr__"))) && (decide (PySem.W.subIn K (.ref C) (.type "BaseException") = some true) && (decide (PySem.W.typeIn K (.ref C) = some (.type "type")) && PySem.W.keepIn K (.ref C))))) &&
  (decide (PySem.W.findIn K (.ref C) "__init__" = some (some (.ref fI))) && (decide (PySem.W.typeIn K (.ref fI) = some (.type "function")) && (decide (PySem.W.findIn K (.ref C) f = some none) &&
  (decide (PySem.W.nsIn K mainGlobals "super" = some none) && (decide (PySem.W.nsIn K PySem.cStatics "thirdparty.any" = some none) && (decide (PySem.W.mroIn K C (.ref C) = some true) && (decide (PySem.W.subIn K (.ref C) (.type "ValueError") = some true) &&
  ((match PySem.W.clsIn K C with
    | some cd => decide (PySem.W.alongIn K "__init__" ((cd.mro.dropWhile (· != .ref C)).drop 1) = some (some (.builtin "ValueError.__init__")))
    | none => false) &&
  (match K.lookup fI with
    | some ⟨_, _, .func fd, _⟩ => decide (fd.defaults = .none) && (match fd.closure, fd.code with
      | [(_, cc)], .ref cda => (match K.lookup cc with
        | some ⟨_, _, .cell (some (.ref D)), _⟩ => decide (D = C)
        | _ => false) && ((match K.lookup cda with
        | some ⟨_, _, .fields vs, _⟩ => (match (vs[2]? : Option Value) with
          | some (.str fl _) => decide (fl = file)
          | _ => false)
        | _ => false) && PySem.W.codeIn K (.ref cda) qual)
      | _, _ => false)
    | _ => false)))))))))
/-- the function's own words -/
abbrev FnI : Type := Option (Str × Str × Arguments × FuncBody × Scope × Addr × List Str × Addr)
def fnI (K : PySem.W.Frag) (fI : Addr) : FnI := match K.lookup fI with
  | some ⟨_, _, .func fd, _⟩ => some (fd.name, fd.qualname, fd.params, fd.body, fd.scope, fd.globals, fd.closure.map (·.1), fd.builtins)
  | _ => none
structure IniT (K : PySem.W.Frag) (C fI : Addr) (f name qual file : Str) (params : Arguments) (body : List Stmt) (scope : Scope) (fd : FuncData) (cc cda : Addr) : Prop where
  oex : OexC K C
  iC : PySem.W.findIn K (.ref C) "__init__" = some (some (.ref fI))
  tI : PySem.W.typeIn K (.ref fI) = some (.type "function")
  no : PySem.W.findIn K (.ref C) f = some none
  sup : PySem.W.nsIn K mainGlobals "super" = some none
  any : PySem.W.nsIn K PySem.cStatics "thirdparty.any" = some none
  own : PySem.W.mroIn K C (.ref C) = some true
  sub : PySem.W.subIn K (.ref C) (.type "ValueError") = some true
  ini : ∀ cd, PySem.W.clsIn K C = some cd → PySem.W.alongIn K "__init__" ((cd.mro.dropWhile (· != .ref C)).drop 1) = some (some (.builtin "ValueError.__init__"))
  fn : ∃ (oc : Value) (od : Option Addr) (kV doc pm : Value) (an : Option Addr) (ct : Value) (osl : Array (Option Value)), fd = PySem.W.fnX name qual params body scope [("__class__", cc)] .none kV doc pm an (.ref cda) ct ∧ K.lookup fI = some ⟨oc, od, .func fd, osl⟩
  cell : ∃ cl cld csl, K.lookup cc = some ⟨cl, cld, .cell (some (.ref C)), csl⟩
  code : ∃ ccl cdd vs ccs tf, K.lookup cda = some ⟨ccl, cdd, .fields vs, ccs⟩ ∧ vs[2]? = some (.str file tf)
  cod : PySem.W.codeIn K (.ref cda) qual = true
theorem oexB_ok {K : PySem.W.Frag} {C : Addr} (h : (match K.lookup C with
    | some ⟨.type "type", _, .cls cd, sl⟩ => (match cd.mro, sl.toList with
      | .ref C' :: bm, [_, _, _, _, some (.builtin n), _] => decide (C' = C) && decide (n = "ValueError.__new__") && !cd.hasDel && cd.hasDict && HandSPX.refsVE bm
      | _, _ => false)
    | _ => false) = true) (sa : PySem.W.findIn K (.ref C) "__setattr__" = some (some (.builtin "object.__setattr__"))) (exC : PySem.W.subIn K (.ref C) (.type "BaseException") = some true) (tyC : PySem.W.typeIn K (.ref C) = some (.type "type")) (kC : PySem.W.keepIn K (.ref C) = true) : OexC K C := by
  split at h
  · rename_i dd cd sl ho
    split at h
    · rename_i C' bm k0 k1 k2 k3 n k5 hm hs
      simp only [Bool.and_eq_true, decide_eq_true_eq, Bool.not_eq_true'] at h
      obtain ⟨⟨⟨⟨rfl, rfl⟩, hl⟩, hd⟩, hr⟩ := h
      have hsl : sl = #[k0, k1, k2, k3, some (.builtin "ValueError.__new__"), k5] := by
        obtain ⟨l⟩ := sl
        simp only at hs
        rw [hs]
      subst hsl
      exact oex_of ho hm hd hl hr sa exC tyC kC
    · cases h
  · cases h
theorem iniT_of {K : PySem.W.Frag} {C fI : Addr} {f name qual file : Str} {params : Arguments} {body : List Stmt} {scope : Scope} (h : iniB K C fI qual f file = true) (hf : fnI K fI = (some (name, qual, params, FuncBody.stmts body, scope, mainGlobals, ["__class__"], builtinsNs) : FnI)) :
    ∃ fd cc cda, IniT K C fI f name qual file params body scope fd cc cda := by
  unfold iniB at h
  simp only [Bool.and_eq_true, decide_eq_true_eq] at h
  obtain ⟨⟨h1, sa, exC, tyC, kC⟩, iC, tI, no, sup, any, own, sub, ini, hfn⟩ := h
  have O := oexB_ok h1 sa exC tyC kC
  unfold fnI at hf
  cases q : K.lookup fI with
  | none =>
    rw [q] at hf
    cases hf
  | some o =>
    obtain ⟨oc, od, dt, osl⟩ := o
    rw [q] at hf hfn
    cases dt with
    | func fd =>
      obtain ⟨n1, n2, n3, n4, n5, n6, n7, n8, n9, n10, n11, n12, n13, n14, n15⟩ := fd
      simp only [Option.some.injEq, Prod.mk.injEq] at hf
      obtain ⟨g1, g2, g3, g4, g5, g6, g7, g8⟩ := hf
      subst g1 g2 g3 g4 g5 g6 g8
      dsimp only at hfn
      obtain ⟨hdv, hfm⟩ := Bool.and_eq_true_iff.mp hfn
      clear hfn
      have hdv := of_decide_eq_true hdv
      subst hdv
      split at hfm
      · rename_i k' cc cda
        simp only [List.map_cons, List.map_nil, List.cons.injEq, and_true] at g7
        subst g7
        simp only [Bool.and_eq_true] at hfm
        obtain ⟨c1, c2, c3⟩ := hfm
        refine ⟨_, cc, cda, O, iC, tI, no, sup, any, own, sub, fun cd e => ?_, ⟨oc, od, n9, n10, n11, n12, n14, osl, rfl, q⟩, ?_, ?_, c3⟩
        · rw [e] at ini
          exact of_decide_eq_true ini
        · split at c1
          · rename_i cl cld D csl e
            have z := of_decide_eq_true c1
            subst z
            exact ⟨cl, cld, csl, e⟩
          · cases c1
        · split at c2
          · rename_i ccl cdd vs ccs e
            split at c2
            · rename_i fl tf e2
              have z := of_decide_eq_true c2
              subst z
              exact ⟨ccl, cdd, vs, ccs, tf, e, e2⟩
            · cases c2
          · cases c2
      · cases hfm
    | _ => cases hf
end S3
end
section
set_option Elab.async false
set_option linter.all false
set_option maxRecDepth 100000
set_option maxHeartbeats 4000000
namespace S3
open PySem PySem.Spec PyProof.Rows L2 NdefX
section
variable {CX : CXT} {P : Program} {w : World} {K : PySem.W.Frag} {mg : Str → Option Value} {base : Heap} {k : Nat} {C fI cc cda : Addr} {f name qual file slf row m : Str} {params : Arguments} {scope : Scope} {fd : FuncData} {p0 p1 p2 p3 p4 p5 p6 p7 p8 p9 : Pos} {j : Nat}
abbrev supE (m : Str) (j : Nat) (p0 p1 p2 p3 p4 : Pos) : Expr := .Call (.Attribute (.Call (.Name "super" p0) [] [] p1) "__init__" p2) [.Constant (.str m) j p3] [] p4
abbrev iniBody (slf f row m : Str) (j : Nat) (p0 p1 p2 p3 p4 p5 p6 p7 p8 p9 : Pos) : List Stmt := [.Expr (supE m j p0 p1 p2 p3 p4) p5, .Assign [.Attribute (.Name slf p6) f p7] (.Name row p8) p9]
theorem fn_ini (I : IniT K C fI f name qual file params (iniBody slf f row m j p0 p1 p2 p3 p4 p5 p6 p7 p8 p9) scope fd cc cda) (S : NScope [slf, row, "__class__"] [slf, row] ["__class__"] scope) (hks : scope.names.lookup ("super" : Str) = some .globalImplicit) (hmg : mg "super" = none)
    (hfile : ((P.main.file : Str) == file) = true) (htop : (P.main.scope.names.lookup ("super" : Str)).isSome = false) (hpar : ∃ ar, (params.posonlyargs ++ params.args).head? = some ar ∧ ar.arg = slf) (hds : (slf == ("__debug__" : Str)) = false) (hdr : (row == ("__debug__" : Str)) = false)
    (hc : ∀ env : Env, ∃ pl : Sem Bool, eval (supE m j p0 p1 p2 p3 p4) env = (do
      let ov ← attributeBase (.Call (.Name "super" p0) [] [] p1) "__init__" env (eval (.Call (.Name "super" p0) [] [] p1) env)
      standAt p2.atName
      let (f, first) ← holding [ov] (getMethod ov "__init__" pl)
      callWith p4 f first (backTo p4 (starEach [.Constant (.str m) j p3] env)) []))
    (hcs : (slf == ("__classdict__" : Str)) = false) (hcr : (row == ("__classdict__" : Str)) = false) : FnOk P w K mg base CX (k + 1) fI fd [slf, row] (iniSp C f) := by
  obtain ⟨oc, od, kV, doc, pm, an, ct, osl, rfl, lk⟩ := I.fn
  refine fn_ofS lk I.cod S I.cell (fun vs H Q E h => ?_) (fun A outer s H vs Q E hr h => ?_)
  · obtain ⟨a, v, rfl, _⟩ := h
    rfl
  · obtain ⟨a, v, rfl, ea, q⟩ := h
    have l0 : scope.names.lookup slf = some .local := S.par _ (.head _)
    have l1 : scope.names.lookup row = some .local := S.par _ (.tail _ (.head _))
    obtain ⟨ar, hp, har⟩ := hpar
    obtain ⟨ccl, cdd, vs, ccs, tf, hc1, hc2⟩ := I.code
    refine ⟨fun H1 => H1 = H, _, fun s1 J => ?_, pss_one (ps_ost (pe_var (i := 0) rfl (.inl l0) hds hcs) (pe_var (i := 1) rfl (.inl l1) hdr hcr)), fun H1 e => ?_⟩
    · obtain ⟨pl, hc'⟩ := hc (envF (supNF name qual params (iniBody slf f row m j p0 p1 p2 p3 p4 p5 p6 p7 p8 p9) scope cc cda) fI s.heap.objs.size)
      exact super_ok (pl := pl) (hc := hc') (hin := by
        show (scope.kind == .module && _) = false
        rw [S.kind] <;> rfl) (X := ncx CX P w K mg base [slf, row, "__class__"] (supNF name qual params (iniBody slf f row m j p0 p1 p2 p3 p4 p5 p6 p7 p8 p9) scope cc cda) fI A outer s H E) (f := fI) (cc := cc) (cda := cda) (C := C) (slf := slf) (i := 0) (W0 := fun H1 => H1 = H) (ta := tCons (tC (.str m)) tNil) { fun_ := ⟨_, _, _, _, ar, lk, hp, har⟩, code := ⟨_, _, _, _, _, _, hc1, hc2, hfile⟩, cell := I.cell, envF := rfl, envC := rfl, envc := rfl, ks := hks, kc := S.frk _ (.head _), ka := l0, mg := hmg, top := htop, any := I.any, own := I.own, sub := I.sub, ini := I.ini }
        I.oex J ea rfl rfl (pa_cons pe_str pa_nil) ⟨by show 1 ≤ 1000; omega, ea, rfl⟩
    · subst e
      exact ⟨v, rfl, .ref a, rfl, a, C, rfl, I.oex, I.no, .inl ⟨ea, fun dx h1 h2 => q dx h1 h2⟩⟩
end
end S3
end
section
set_option Elab.async false
set_option linter.all false
set_option maxRecDepth 100000
set_option maxHeartbeats 4000000
namespace He
open PySem PySem.Spec PyProof.Rows L2
/-- such a method: class and name, name, qualified name, parameters, body, scope -/
structure SupD where
  at_ : Str × Option Str
  name : Str
  qual : Str
  params : Arguments
  body : List Stmt
  scope : Scope
def SupD.val (d : SupD) : S3.FnI := some (d.name, d.qual, d.params, .stmts d.body, d.scope, mainGlobals, ["__class__"], builtinsNs)
abbrev AlI : Type := AlX × List S3.FnI
structure SaysI (fa : List Fa) (fn : List DefD) (ts : List Tab) (tf : List Defn) (ex : PySem.W.Frag → Bool) (ss : List SupD) (w : World) (h : Heap) (K : PySem.W.Frag) : Prop where
  x : SaysX fa fn ts tf ex w h K
  s : ss.map (fun d => S3.fnI K (fAd K d.at_)) = ss.map SupD.val
/-- what is looked at: the statics' dict, too -/
def asI (g : Addr → Option Obj) (n : Nat) : List Addr := cStatics :: asD g n
def obsJ (fa : List Fa) (fn : List DefD) (ts : List Tab) (tf : List Defn) (ex : PySem.W.Frag → Bool) (g : Addr → Option Obj) (as : List Addr) : AlX := (obsT fa fn ts (frT g as), ex (frT g as) && tabsB g tf (frT g as))
theorem saysJ_of {as : List Addr} {fa : List Fa} {fn : List DefD} {ts : List Tab} {tf : List Defn} {ex : PySem.W.Frag → Bool} {w : World} {h : Heap} (e : obsJ fa fn ts tf ex h.get? as = valX fn ts w) : SaysX fa fn ts tf ex w h (frT h.get? as) := by
  have e1 : obsT fa fn ts (frT h.get? as) = valT fn ts w := congrArg (fun z : AlX => z.1) e
  have e2 : (ex (frT h.get? as) && tabsB h.get? tf (frT h.get? as)) = true := congrArg (fun z : AlX => z.2) e
  obtain ⟨h1, h2⟩ := ba e2
  have key : ∀ p ∈ tf, PySem.W.codeHdIn (frT h.get? as) (cT (frT h.get? as) p).1 (cT (frT h.get? as) p).2 = true ∧ ∃ o, h.get? (cT (frT h.get? as) p).2 = some o ∧ emptyTab o = true := fun p hp => by
    obtain ⟨h3, h4⟩ := ba (List.all_eq_true.mp h2 p hp)
    refine ⟨h3, ?_⟩
    cases q : h.get? (cT (frT h.get? as) p).2 with
    | none =>
      rw [q] at h4
      cases h4
    | some o =>
      rw [q] at h4
      exact ⟨o, rfl, h4⟩
  exact ⟨e1, h1, fun p hp => (key p hp).1, fun p hp => by
    obtain ⟨_, o, q, z⟩ := key p hp
    exact frT_none q z, fun p hp => by
    obtain ⟨_, o, q, z⟩ := key p hp
    rw [q, emptyTab_eq z]⟩
def obsI (n : Nat) (fa : List Fa) (fn : List DefD) (ts : List Tab) (tf : List Defn) (ex : PySem.W.Frag → Bool) (ss : List SupD) (g : Addr → Option Obj) : AlI :=
  (obsJ fa fn ts tf ex g (asI g n), ss.map fun d => S3.fnI (frT g (asI g n)) (fAd (frT g (asI g n)) d.at_))
def valI (fn : List DefD) (ts : List Tab) (ss : List SupD) (w : World) : AlI := (valX fn ts w, ss.map SupD.val)
def hookI (n : Nat) (fa : List Fa) (fn : List DefD) (ts : List Tab) (tf : List Defn) (ex : PySem.W.Frag → Bool) (ss : List SupD) : PySem.W.Hook where
  α := AlI
  obs := fun s => obsI n fa fn ts tf ex ss s.heap.get?
  val := fun w => valI fn ts ss w
  says := fun w h => ∃ K : PySem.W.Frag, K.In h ∧ SaysI fa fn ts tf ex ss w h K
  of := fun _ _ e => ⟨_, frT_in, saysJ_of (congrArg (fun z : AlI => z.1) e), congrArg (fun z : AlI => z.2) e⟩
  keeps := fun _ _ _ ⟨K, hK, c⟩ k => ⟨K, PySem.W.Frag.In.keeps hK k, ⟨⟨c.x.t, c.x.more, c.x.hd, c.x.out, fun p hp => k _ _ (c.x.empty p hp)⟩, c.s⟩⟩
theorem obsI_eq {n : Nat} {fa : List Fa} {fn : List DefD} {ts : List Tab} {tf : List Defn} {ex : PySem.W.Frag → Bool} {ss : List SupD} {g : Addr → Option Obj} {s : Shared} (h : ∀ a, g a = s.heap.get? a) : obsI n fa fn ts tf ex ss g = (hookI n fa fn ts tf ex ss).obs s := by
  have e : g = s.heap.get? := funext h
  rw [e] <;> rfl
theorem SaysI.sup {fa : List Fa} {fn : List DefD} {ts : List Tab} {tf : List Defn} {ex : PySem.W.Frag → Bool} {ss : List SupD} {w : World} {h : Heap} {K : PySem.W.Frag} (c : SaysI fa fn ts tf ex ss w h K) (i : Nat) {d : SupD} (hd : ss[i]? = some d := by rfl) :
    S3.fnI K (fAd K d.at_) = (some (d.name, d.qual, d.params, FuncBody.stmts d.body, d.scope, mainGlobals, ["__class__"], builtinsNs) : S3.FnI) := by
  have z := congrArg (fun l => l[i]?) c.s
  simp only [List.getElem?_map, hd, Option.map_some, Option.some.injEq] at z
  exact z
end He
end
section
set_option Elab.async false
set_option linter.all false
set_option maxRecDepth 100000
set_option maxHeartbeats 4000000
namespace S3
open PySem PySem.Spec PyProof.Rows L2
noncomputable section NC
section
variable {B : Bx} {X : Cx} {W : WX}
end
end NC
end S3
end
section
set_option Elab.async false
set_option linter.all false
set_option maxRecDepth 100000
set_option maxHeartbeats 4000000
namespace S3
open PySem PySem.Spec PyProof.Rows L2 NdefX L2H
section
variable {CX : CXT} {P : Program} {w : World} {K : PySem.W.Frag} {mg : Str → Option Value} {base : Heap} {k : Nat} {f : Addr} {name qual : Str} {params : Arguments} {st0 : Stmt} {body : List Stmt} {scope : Scope} {dV kV doc pm ct oc : Value} {cda cc C : Addr} {an od : Option Addr}
  {osl : Array (Option Value)} {N ps : List Str} {sp : Sp}
/-- a method whose first statement is super().__init__(..) -/
theorem fn_ofSH (lk : K.lookup f = some ⟨oc, od, .func (PySem.W.fnX name qual params (st0 :: body) scope [("__class__", cc)] dV kV doc pm an (.ref cda) ct), osl⟩) (hcd : PySem.W.codeIn K (.ref cda) qual = true)
    (S : NScope N ps ["__class__"] scope) (hcell : ∃ cl cld csl, K.lookup cc = some ⟨cl, cld, .cell (some (.ref C)), csl⟩) (len : ∀ vs H Q E, sp vs H Q E → vs.length = ps.length)
    (hbody : ∀ (A : Around) (outer : List Env) (s : Shared) (H : Hp) (vs : List V) (Q : VK) (E : XK) (p : Addr × Obj), Hot1 A p → RoomH k (A.deeper (envF (supNF name qual params (st0 :: body) scope cc cda) f s.heap.objs.size)) → sp vs H Q E →
      ∃ (W0 : Hp → Prop) (t : TS), (∀ s1, Inv (ncxH CX P w K mg base N (supNF name qual params (st0 :: body) scope cc cda) f A outer s H E p) [] (startF N vs [none]) H s1 →
        PySem.wpAt (model P w) (A.deeper (envF (supNF name qual params (st0 :: body) scope cc cda) f s.heap.objs.size)) (.func (st0 :: body) (envF (supNF name qual params (st0 :: body) scope cc cda) f s.heap.objs.size))
          (exec st0 (envF (supNF name qual params (st0 :: body) scope cc cda) f s.heap.objs.size))
          (fun fl s' => fl = .next ∧ ∃ H1, Inv (ncxH CX P w K mg base N (supNF name qual params (st0 :: body) scope cc cda) f A outer s H E p) [] (startF N vs [none]) H1 s' ∧ W0 H1)
          (ncxH CX P w K mg base N (supNF name qual params (st0 :: body) scope cc cda) f A outer s H E p).xe s1) ∧
        PSs (ncxH CX P w K mg base N (supNF name qual params (st0 :: body) scope cc cda) f A outer s H E p) body t ∧ ∀ H1, W0 H1 → t { nx := fun _ H' => Q .non H', rt := Q } (startF N vs [none]) H1) :
    FnH P w K mg base CX (k + 1) f (PySem.W.fnX name qual params (st0 :: body) scope [("__class__", cc)] dV kV doc pm an (.ref cda) ct) ps sp := by
  refine ⟨len, fun A outer s H args us vs Q E p hr hot hpin e0 hb r hsp => ?_⟩
  have hl := len _ _ _ _ hsp
  have KX : K.In s.heap := e0.mod.kin.keeps fun b o e => (e0.bs b o e).1
  have lim : s.heap.NoLimit := e0.mod.nolimit.keeps fun b o e => (e0.bs b o e).1
  refine PySem.ks_codeAny_call_defAt (fd := PySem.W.fnX name qual params (st0 :: body) scope [("__class__", cc)] dV kV doc pm an (.ref cda) ct) (body := st0 :: body) (binds := ps.zip us) hr.depth (KX _ _ lk) rfl lim (PySem.W.codeRec_of KX hcd) rfl hb
    S.nocell (fun ⟨n, _⟩ hy => S.par n (List.of_mem_zip hy).1) (fun h₀ hns kp => ?_) S.co S.gen S.kind
  obtain ⟨W0, t, h0, ht, hq⟩ := hbody A outer s H vs Q E p hot (hr.deeper _) hsp
  have I : Inv (ncxH CX P w K mg base N (supNF name qual params (st0 :: body) scope cc cda) f A outer s H E p) [] (startF N vs [none]) H { s with heap := h₀, toks := s.toks + (ps.zip us).length } := inv_startNH S hpin e0 hl r (cellsS e0 hcell) hns kp
  have fin : ∀ {σ' : L2.St} {H' : Hp} {v : V} {u : Value} {s' : Shared}, Inv (ncxH CX P w K mg base N (supNF name qual params (st0 :: body) scope cc cda) f A outer s H E p) [] σ' H' s' → L2.RelV v u → Q v H' → CE outer P w H s Q u s' :=
    fun {σ' H' v u s'} J rv q => ⟨v, H', J.os, J.bare, J.base, J.hok, rv, q⟩
  refine PySem.ks_wpAt_mono (Q := L2.SP (ncxH CX P w K mg base N (supNF name qual params (st0 :: body) scope cc cda) f A outer s H E p) [] { nx := fun _ H' => Q .non H', rt := Q }) (PySem.ks_wpAt_execs_cons (PySem.ks_wpAt_mono (h0 _ I) (fun fl s' z => ?_) fun _ _ z => z)) (fun fl s' hs => ?_) fun e s' hs => hs
  · obtain ⟨ef, H1, J, w0⟩ := z
    subst ef
    exact PySem.wpAt_of_wpAny (ht.run [] s' _ H1 _ J (hq H1 w0))
  · cases fl with
    | ret u =>
      obtain ⟨v, σ', H', J, rv, q⟩ := hs
      exact fin J rv q
    | next =>
      obtain ⟨σ', H', J, q⟩ := hs
      exact fin (v := V.non) (u := Value.none) J rfl q
    | brk =>
      obtain ⟨_, _, _, q⟩ := hs
      exact False.elim q
    | cont =>
      obtain ⟨_, _, _, q⟩ := hs
      exact False.elim q
end
section
variable {CX : CXT} {P : Program} {w : World} {K : PySem.W.Frag} {mg : Str → Option Value} {base : Heap} {k : Nat} {C fI cc cda : Addr} {f name qual file slf row m : Str} {params : Arguments} {scope : Scope} {fd : FuncData} {p0 p1 p2 p3 p4 p5 p6 p7 p8 p9 : Pos} {j : Nat}
theorem fn_iniH (I : IniT K C fI f name qual file params (iniBody slf f row m j p0 p1 p2 p3 p4 p5 p6 p7 p8 p9) scope fd cc cda) (S : NScope [slf, row, "__class__"] [slf, row] ["__class__"] scope) (hks : scope.names.lookup ("super" : Str) = some .globalImplicit) (hmg : mg "super" = none)
    (hfile : ((P.main.file : Str) == file) = true) (htop : (P.main.scope.names.lookup ("super" : Str)).isSome = false) (hpar : ∃ ar, (params.posonlyargs ++ params.args).head? = some ar ∧ ar.arg = slf) (hds : (slf == ("__debug__" : Str)) = false) (hdr : (row == ("__debug__" : Str)) = false)
    (hc : ∀ env : Env, ∃ pl : Sem Bool, eval (supE m j p0 p1 p2 p3 p4) env = (do
      let ov ← attributeBase (.Call (.Name "super" p0) [] [] p1) "__init__" env (eval (.Call (.Name "super" p0) [] [] p1) env)
      standAt p2.atName
      let (f, first) ← holding [ov] (getMethod ov "__init__" pl)
      callWith p4 f first (backTo p4 (starEach [.Constant (.str m) j p3] env)) []))
    (hcs : (slf == ("__classdict__" : Str)) = false) (hcr : (row == ("__classdict__" : Str)) = false) : FnH P w K mg base CX (k + 1) fI fd [slf, row] (iniSp C f) := by
  obtain ⟨oc, od, kV, doc, pm, an, ct, osl, rfl, lk⟩ := I.fn
  refine fn_ofSH lk I.cod S I.cell (fun vs H Q E h => ?_) (fun A outer s H vs Q E p hot hr h => ?_)
  · obtain ⟨a, v, rfl, _⟩ := h
    rfl
  · obtain ⟨a, v, rfl, ea, q⟩ := h
    have l0 : scope.names.lookup slf = some .local := S.par _ (.head _)
    have l1 : scope.names.lookup row = some .local := S.par _ (.tail _ (.head _))
    obtain ⟨ar, hp, har⟩ := hpar
    obtain ⟨ccl, cdd, vs, ccs, tf, hc1, hc2⟩ := I.code
    refine ⟨fun H1 => H1 = H, _, fun s1 J => ?_, pss_one (ps_ost (pe_var (i := 0) rfl (.inl l0) hds hcs) (pe_var (i := 1) rfl (.inl l1) hdr hcr)), fun H1 e => ?_⟩
    · obtain ⟨pl, hc'⟩ := hc (envF (supNF name qual params (iniBody slf f row m j p0 p1 p2 p3 p4 p5 p6 p7 p8 p9) scope cc cda) fI s.heap.objs.size)
      exact super_ok (pl := pl) (hc := hc') (hin := by
        show (scope.kind == .module && _) = false
        rw [S.kind] <;> rfl) (X := ncxH CX P w K mg base [slf, row, "__class__"] (supNF name qual params (iniBody slf f row m j p0 p1 p2 p3 p4 p5 p6 p7 p8 p9) scope cc cda) fI A outer s H E p) (f := fI) (cc := cc) (cda := cda) (C := C) (slf := slf) (i := 0) (W0 := fun H1 => H1 = H) (ta := tCons (tC (.str m)) tNil) { fun_ := ⟨_, _, _, _, ar, lk, hp, har⟩, code := ⟨_, _, _, _, _, _, hc1, hc2, hfile⟩, cell := I.cell, envF := rfl, envC := rfl, envc := rfl, ks := hks, kc := S.frk _ (.head _), ka := l0, mg := hmg, top := htop, any := I.any, own := I.own, sub := I.sub, ini := I.ini }
        I.oex J ea rfl rfl (pa_cons pe_str pa_nil) ⟨by show 1 ≤ 1000; omega, ea, rfl⟩
    · subst e
      exact ⟨v, rfl, .ref a, rfl, a, C, rfl, I.oex, I.no, .inl ⟨ea, fun dx h1 h2 => q dx h1 h2⟩⟩
end
end S3
end
section
set_option Elab.async false
set_option linter.all false
set_option maxRecDepth 100000
set_option maxHeartbeats 4000000
namespace S3
open PySem PySem.Spec PyProof.Rows L2
noncomputable section NC
section
variable {B : Bx} {X : Cx} {W : WX}
section
variable {k : Nat} {f C : Addr} {fd : FuncData} {ps : List Str} {g : Fn} {x m c : Str} {p pos apos : Pos} {e o : Expr} {es : List Expr} {ma : MA} {mo : ME} {gi : List AV → AH → Rs (List (Str × AV))}
end
end
section
variable {B : Bx} {P : Program} {w : World} {base : Heap} {k : Nat} {f : Addr} {fd : FuncData} {ps : List Str} {g : Fn}
end
end NC
end S3
end
section
set_option Elab.async false
set_option linter.all false
set_option maxRecDepth 100000
set_option maxHeartbeats 4000000
namespace S3
open PySem PySem.Spec PyProof.Rows L2 NdefX
noncomputable section NC
section
variable {B : Bx} {X : Cx} {W : WX}
end
end NC
end S3
end
section
set_option Elab.async false
set_option linter.all false
set_option maxRecDepth 100000
set_option maxHeartbeats 4000000
namespace S3
open PySem PySem.Spec PyProof.Rows L2 L2H
noncomputable section NC
section
variable {B : Bx} {X : Cx} {W : WX}
end
end NC
end S3
end
section
set_option Elab.async false
set_option linter.all false
set_option maxRecDepth 100000
set_option maxHeartbeats 4000000
namespace S3S
open PySem PyProof.Rows PySem.W
section
variable {prog : Program} {w : World} {A : Around} {E : Value → Shared → Prop} {s : Shared} {β : Type} {bs : List β}
end
end S3S
namespace S3
open PySem PySem.Spec PyProof.Rows L2
noncomputable section NC
section
variable {B : Bx} {X : Cx} {W : WX}
end
end NC
end S3
end
section
set_option Elab.async false
set_option linter.all false
set_option maxRecDepth 100000
set_option maxHeartbeats 4000000
namespace S3
open PySem PySem.Spec PyProof.Rows L2 NdefX
noncomputable section NC
section
variable {B : Bx} {X : Cx} {W : WX}
theorem er_weak {ρ : List Addr} {F : Hp} {c : Str} {fs : List (Str × AV)} {cls : Value} {d : Option Addr} {H : Hp} (er : ER B ρ F c fs cls d H) : ER B ρ F c [] cls d H := by
  obtain ⟨C, h1, h2, h3⟩ := er
  refine ⟨C, h1, h2, .inl ⟨rfl, ?_⟩⟩
  rcases h3 with ⟨_, k⟩ | ⟨dx, ws, e1, e2, _⟩
  · exact k
  · rw [e1]; exact ⟨ws, e2⟩
theorem raise_weak {x f : Str} {ma : MA} {D : Ends} {σ : L2.St} {H : Hp} (h : tms B W (mRaiseE x ma) D σ H) : tms B W (mRaiseI x f ma) D σ H := by
  obtain ⟨ρ, F, h, s, sr, hr, p⟩ := h
  refine ⟨ρ, F, h, s, sr, hr, ?_⟩
  have p : PostS B ρ F H ((ma s h).toS s fun as h1 => if as.length = 1 then .exc s x [] h1 else .stk) D W := p
  show PostS B ρ F H ((ma s h).toS s fun as h1 => match as with
    | [a] => .exc s x [(f, a)] h1
    | _ => .stk) D W
  cases k : ma s h with
  | stk => rw [k] at p; exact p
  | exc c fs h1 => rw [k] at p; exact p
  | ok as h1 =>
    rw [k] at p
    have p : PostS B ρ F H (if as.length = 1 then .exc s x [] h1 else .stk) D W := p
    split at p
    · rename_i hl
      cases as with
      | nil => cases hl
      | cons a r =>
        cases r with
        | cons b r => simp at hl
        | nil => exact fun ρ' F' H' σ' cls d e hr' sr' er => p ρ' F' H' σ' cls d e hr' sr' (er_weak er)
    · exact p.elim
theorem ss_raiseI0 {x f : Str} {e : Expr} {ma : MA} {p p3 pos : Pos} {C fI : Addr} {k : Nat} {fd : FuncData} {ps : List Str} (gC : B.mg x = some (.ref C)) (T : OexC X.K C) (iC : PySem.W.findIn X.K (.ref C) "__init__" = some (some (.ref fI))) (tI : PySem.W.typeIn X.K (.ref fI) = some (.type "function"))
    (F1 : FnOk X.prog X.w X.K X.mg X.base (L2.CX X.prog X.w) k fI fd ps (iniSp C f)) (hr : Room (k + 1) X.A) (hb : Binds X.K fd ps []) (tk : Takes X W) (hc : X.calm = true) (ha : SA B X W [e] ma) (he : starEach [e] X.env = (false, eval e X.env) :: starEach [] X.env := by rfl)
    (hmg : X.mg = B.mg := by rfl) (hg : Gl X x := by rfl) (hdb : (x == ("__debug__" : Str)) = false := by decide) : SS B X W (.Raise (some (.Call (.Name x p) [e] [] p3)) none pos) (mRaiseE x ma) :=
  PS.imp (ss_raiseI gC T iC tI F1 hr hb tk hc ha he hmg hg hdb) fun D σ H h => raise_weak h
end
def mkX (k : Int) : Str := ⟨#[k.toNat, (-k).toNat]⟩
def unX (c : Str) : Option Int := match c.cps.toList with
  | [a, b] => some ((a : Int) - (b : Int))
  | _ => none
@[simp] theorem unX_mk (k : Int) : unX (mkX k) = some k := by
  show some ((k.toNat : Int) - ((-k).toNat : Int)) = some k
  congr 1
  omega
section
variable {C f : Str}
end
section
variable {B : Bx} {P : Program} {w : World} {base : Heap} {k : Nat} {fa : Addr} {fd : FuncData} {ps : List Str} {g g' : Fn} {C f : Str}
end
end NC
end S3
end
section
set_option Elab.async false
set_option linter.all false
set_option maxRecDepth 100000
set_option maxHeartbeats 4000000
namespace S9
open PySem PySem.Spec PyProof.Rows L2 S3
noncomputable section
section
variable {F : Fr} {ds : List SD} {N S R M M' Y : Type} {D : Ds N S R M}
def ER.nm (g : Str → Str) (t : ER M Y) : ER M Y := match t with
  | .exc c m => .exc (g c) m
  | t => t
@[simp] theorem er_nm_ok (g : Str → Str) (y : Y) : (ER.ok y : ER M Y).nm g = .ok y := rfl
@[simp] theorem er_nm_exc (g : Str → Str) (c : Str) (m : M) : (ER.exc c m : ER M Y).nm g = .exc (g c) m := rfl
@[simp] theorem er_nm_stk (g : Str → Str) : (ER.stk : ER M Y).nm g = .stk := rfl
/-- try: .. except C as e: return e.f -/
def ER.asC (t : ER M' Y) (kb : Int → M' → Ct N S R M) (k : Y → Ct N S R M) : Ct N S R M := match t with
  | .ok y => k y
  | .exc d m => match unX d with
    | some j => kb j m
    | none => .stk
  | .stk => .stk
@[simp] theorem er_as_ok (y : Y) (kb : Int → M' → Ct N S R M) (k : Y → Ct N S R M) : (ER.ok y : ER M' Y).asC kb k = k y := rfl
@[simp] theorem er_as_exc (d : Str) (m : M') (kb : Int → M' → Ct N S R M) (k : Y → Ct N S R M) : (ER.exc d m : ER M' Y).asC kb k = match unX d with
    | some j => kb j m
    | none => .stk := rfl
end
end
end S9
end
section
set_option Elab.async false
set_option linter.all false
set_option maxRecDepth 100000
set_option maxHeartbeats 4000000
namespace S3
open PySem PySem.Spec PyProof.Rows L2
noncomputable section NC
section
variable {B : Bx} {X : Cx} {W : WX}
end
end NC
end S3
namespace S9
open PySem PySem.Spec PyProof.Rows L2 S3
end S9
namespace S3
open PySem PySem.Spec PyProof.Rows L2
noncomputable section
def inS (neg : Bool) (x y : Str) : Bool := if neg then !(!(Builtin.Str.occurrences y x 0 y.length 1).isEmpty) else !(Builtin.Str.occurrences y x 0 y.length 1).isEmpty
def gInQS (neg : Bool) : G2 := fun a b _ => match a, b with
  | .str x, .str y => some (.bl (inS neg x y))
  | _, _ => none
section
variable {B : Bx} {X : Cx}
theorem qv_str {ρ : List Addr} {F : Hp} {x : Str} {v : Value} (r : QV B ρ F (.str x) v) : ∃ t, v = .str x t := by
  obtain ⟨w, rw', rx⟩ := r
  have rx : w = .str x := rx
  subst rx
  exact rw'
theorem oq_gNotInS (hK : X.K = B.K := by rfl) : OpQ B X (compareOp .NotIn) (gInQS true) := by
  intro A' E' s ρ F h H a b c v u hd un hok kin hr ra rb e
  unfold gInQS at e
  split at e
  · cases e
    obtain ⟨t, rfl⟩ := qv_str ra
    obtain ⟨t', rfl⟩ := qv_str rb
    exact notIn_str ⟨bl_qv, GxR.keeps_refl s⟩
  · cases e
end
end
end S3
namespace S9
open PySem PySem.Spec PyProof.Rows L2 S3
def strIn (x y : Str) : Bool := !(Builtin.Str.occurrences y x 0 y.length 1).isEmpty
theorem op_inSf {x y : Str} : ∀ h, gIn false (.str x) (.str y) h = some (.bl (strIn x y)) := fun h => rfl
theorem op_inQSt {x y : Str} : ∀ h, gInQS true (.str x) (.str y) h = some (.bl (!strIn x y)) := fun h => rfl
end S9
namespace S9
open PySem PySem.Spec PyProof.Rows L2 S3
noncomputable section
variable {F : Fr} {ds : List SD} {τ κ : Type} {V : AH → AV → Prop} {E : τ → AV} {L : List τ} {d : DtO κ} {f : τ → κ}
section
variable {M Y Z : Type} {dm : M → List SD}
end
end
end S9
namespace S9
open PySem PySem.Spec PyProof.Rows L2 S3
end S9
namespace S9
open PySem PySem.Spec PyProof.Rows L2 S3
theorem inv_rdt {τ : Type} {d : Dt τ} {x : τ} {L : List τ} : ∀ h v, VE (.rdt (L.map d.enc)) h v → (pyv h v = .list (pys (L.map d.enc)) ∨ pyv h v = .tuple (pys (L.map d.enc))) ∧ dGet h v (d.enc x) = none ∧ ∀ z, v ≠ .str z := fun h v e => by
  have e : v = .rdt (L.map d.enc) := e
  subst e
  exact ⟨by first | exact .inr rfl | exact .inl rfl, rfl, fun z => (nomatch ·)⟩
end S9
namespace S3
open PySem PySem.Spec PyProof.Rows L2
noncomputable section
section
variable {B : Bx} {X : Cx}
end
end
end S3
namespace S9
open PySem PySem.Spec PyProof.Rows L2 S3
end S9
end
section
set_option Elab.async false
set_option linter.all false
set_option maxRecDepth 100000
set_option maxHeartbeats 4000000
namespace S3
open PySem PySem.Spec PyProof.Rows L2
noncomputable section NC
structure LamD where
  params : Arguments
  body : Expr
  scope : Scope
  pos : Pos
def LamD.ex (l : LamD) : Expr := .Lambda l.params l.body l.scope l.pos
abbrev lamQ (X : Cx) : Str := X.env.qual ++ "<lambda>"
def FnAt (X : Cx) (l : LamD) (c' : Addr) (o : Obj) : Prop := ∃ pm ctv, o = PySem.W.kla_obj "<lambda>" (lamQ X) l.params l.body l.scope (cloFrom X.env.cells l.scope.names []) pm c' ctv
def Lams (X : Cx) (pn : List (Addr × Obj)) (ls : List LamD) (fcs : List (Addr × Addr)) : Prop := fcs.length = ls.length ∧ ∀ (i : Nat) l p, ls[i]? = some l → fcs[i]? = some p → ∃ o, (p.1, o) ∈ pn ∧ FnAt X l p.2 o
section
variable {X : Cx} {T : List (Addr × Str)} {c P : Addr} {E : Value → Shared → Prop}
theorem Lams.mono {pn pn' : List (Addr × Obj)} {ls : List LamD} {fcs : List (Addr × Addr)} (h : Lams X pn ls fcs) (k : ∀ p ∈ pn, p ∈ pn') : Lams X pn' ls fcs := ⟨h.1, fun i l p e1 e2 => by
  obtain ⟨o, m, f⟩ := h.2 i l p e1 e2
  exact ⟨o, k _ m, f⟩⟩
theorem lams_make (TB : LamX.TabB X.base X.mg c P) (hcode : X.env.code = .ref c) (hm : (P, lamQ X) ∈ T) (hu : ∀ p ∈ T, p.1 = P → p.2 = lamQ X) (hs : X.stack = X.env :: X.outer) (hfr0 : X.env.frame = some X.env.locals) : ∀ (ls : List LamD) {pins : List (Addr × Obj)} {s : Shared} {σ : L2.St} {H : Hp} {Q : List Value → Shared → Prop}, Inv X pins σ H s → LamX.Tabs T H → (∀ l ∈ ls, defaultsOf l.params X.env = ([], []) ∧ LamX.LamS X.env.scope l.scope) →
    (∀ (fcs : List (Addr × Addr)) (pins' : List (Addr × Obj)) (H1 : Hp) (s1 : Shared), Inv X (pins' ++ pins) σ H1 s1 → LamX.ExtN H H1 → LamX.Tabs T H1 → Lams X (pins' ++ pins) ls fcs → (∀ p ∈ fcs, H1 p.2 = some (LamX.CodeO p.2 (lamQ X))) → Q (fcs.map fun p => Value.ref p.1) s1) →
    wpAny (model X.prog X.w) X.A (spliced (ls.map fun l => (false, eval l.ex X.env))) Q E s
  | [], pins, s, σ, H, Q, I, t, _, h => Calls.spliced_nil (h [] [] H s I (LamX.ExtN.refl H) t ⟨rfl, fun i l p e => by cases e⟩ fun p hp => nomatch hp)
  | l :: ls, pins, s, σ, H, Q, I, t, hl, h => by
    obtain ⟨d0, L0⟩ := hl l List.mem_cons_self
    refine Calls.spliced_cons (LamX.lam_make2 I TB hcode hm hu t d0 (L0.has I.ok) fun f c' pm ctv H1 s' I1 eN t1 hf hfn hfr hco => ?_)
    have efr : frs X.stack = X.env.locals :: X.fs := by
      rw [hs]
      show List.filterMap _ (X.env :: X.outer) = _
      rw [List.filterMap_cons, hfr0]
      rfl
    rw [efr] at hfr
    have ne : f ≠ X.env.locals ∧ f ∉ X.fs := ⟨fun z => hfr (by rw [z]; exact List.mem_cons_self), fun z => hfr (List.mem_cons_of_mem _ z)⟩
    have I2 : Inv X ((f, PySem.W.kla_obj "<lambda>" (lamQ X) l.params l.body l.scope (cloFrom X.env.cells l.scope.names []) pm c' ctv) :: pins) σ H1 s' := ⟨I1.ok, I1.os, I1.bare, I1.base, I1.loc, I1.cell, I1.free, I1.freeC, fun p hp => by
      rcases List.mem_append.mp hp with z | z
      · exact I1.pin p (List.mem_append_left _ z)
      · rcases List.mem_cons.mp z with rfl | z
        · exact ⟨hf, hfn, ne.1, ne.2, fun v z => by cases z⟩
        · exact I1.pin p (List.mem_append_right _ z), I1.hok, I1.len⟩
    refine lams_make TB hcode hm hu hs hfr0 ls I2 t1 (fun l hl' => hl l (List.mem_cons_of_mem _ hl')) fun fcs pins' H2 s2 J eN2 t2 LA hc => ?_
    refine h ((f, c') :: fcs) (pins' ++ [(f, PySem.W.kla_obj "<lambda>" (lamQ X) l.params l.body l.scope (cloFrom X.env.cells l.scope.names []) pm c' ctv)]) H2 s2 (by rw [List.append_assoc]; exact J) (eN.trans eN2) t2 ⟨by simp [LA.1], fun i l' p e1 e2 => ?_⟩ fun p hp => ?_
    · cases i with
      | zero =>
        cases e1
        cases e2
        exact ⟨_, by simp, pm, ctv, rfl⟩
      | succ i =>
        obtain ⟨o, m, g⟩ := LA.2 i l' p e1 e2
        refine ⟨o, ?_, g⟩
        rw [List.append_assoc]
        exact m
    · rcases List.mem_cons.mp hp with rfl | hp
      · exact eN2 _ _ hco LamX.codeO_ne
      · exact hc p hp
theorem inv_less {pins pins' : List (Addr × Obj)} {σ : L2.St} {H : Hp} {s : Shared} (I : Inv X (pins' ++ pins) σ H s) : Inv X pins σ H s :=
  ⟨I.ok, I.os, I.bare, I.base, I.loc, I.cell, I.free, I.freeC, fun p hp => I.pin p (by
    rcases List.mem_append.mp hp with z | z
    · exact List.mem_append_left _ z
    · exact List.mem_append_right _ (List.mem_append_right _ z)), I.hok, I.len⟩
def tLams (T : List (Addr × Str)) (q : Str) (n iw : Nat) (tr : List (Addr × Addr) → L2.TS) : L2.TS := fun D σ H => LamX.Tabs T H ∧ ∀ (fcs : List (Addr × Addr)) (L : Addr) (H1 : Hp), LamX.ExtN H H1 → LamX.Tabs T H1 → fcs.length = n → (∀ p ∈ fcs, H1 p.2 = some (LamX.CodeO p.2 q)) → H1 L = none →
  tr fcs D (σ.set iw (some (.ref L))) (upd H1 L (.lst (fcs.map fun p => V.ref p.1)))
theorem refs_vals : ∀ fcs : List (Addr × Addr), Vals (fcs.map fun p => V.ref p.1) (fcs.map fun p => Value.ref p.1)
  | [] => .nil
  | p :: r => .cons (show RelV (.ref p.1) (.ref p.1) from rfl) (refs_vals r)
theorem pss_lams {iw : Nat} {x : Str} {ls : List LamD} {rest : List Stmt} {px lpos pos : Pos} {tr : List (Addr × Addr) → L2.TS} (hN : X.N.Nodup) (hi : X.N[iw]? = some x) (hx : Loc X.env.scope x) (hxf : X.fn x = true ∨ X.env.scope.names.lookup x = some .local)
    (TB : LamX.TabB X.base X.mg c P) (hcode : X.env.code = .ref c) (hm : (P, lamQ X) ∈ T) (hu : ∀ p ∈ T, p.1 = P → p.2 = lamQ X) (hs : X.stack = X.env :: X.outer) (hfr0 : X.env.frame = some X.env.locals)
    (hl : ∀ l ∈ ls, defaultsOf l.params X.env = ([], []) ∧ LamX.LamS X.env.scope l.scope) (hz : ls.length ≤ sizeLine)
    (hst : starEach (ls.map LamD.ex) X.env = ls.map fun l => (false, eval l.ex X.env)) (hsw : swapsWith (.List (ls.map LamD.ex) lpos) (some (.Name x px)) pos.line X.env = pure false)
    (hr : ∀ (pn : List (Addr × Obj)) (fcs : List (Addr × Addr)), Lams X pn ls fcs → PSs (X.tr pn X.xe) rest (tr fcs)) : PSs X (.Assign [.Name x px] (.List (ls.map LamD.ex) lpos) pos :: rest) (tLams T (lamQ X) ls.length iw tr) := by
  refine ⟨fun pins s σ H D I h => ?_⟩
  obtain ⟨t0, h⟩ := h
  refine wpAny_execs_cons (wpAny_Assign_Name (wpAny_List_spliced ?_) hsw)
  have eb : backTo lpos (starEach (ls.map LamD.ex) X.env) = ls.map fun l => (false, eval l.ex X.env) := by
    rw [hst]
    unfold backTo
    rw [List.map_map]
    rfl
  rw [eb]
  refine lams_make TB hcode hm hu hs hfr0 ls I t0 hl fun fcs pins' H1 s1 I1 eN t1 LA hc => ⟨by rw [List.length_map, LA.1]; exact hz, ?_⟩
  have fresh : H1 s1.heap.objs.size = none := I1.hok.fresh (Nat.le_refl _)
  have I2 := I1.laid (a := s1.heap.objs.size) (o := .lst (fcs.map fun p => V.ref p.1)) (h' := s1.heap.push { cls := .type "list", data := .seq (fcs.map fun p => Value.ref p.1).toArray }) (t' := s1.toks) (fun b u e => Heap.get?_push_of_some _ e) (Nat.le_refl _) ⟨by rw [List.length_map, LA.1]; exact hz, fcs.map (fun p => Value.ref p.1), _, refs_vals fcs, Heap.get?_push_size _ rfl⟩
  refine store_ok I2 hN hi hx (show RelV (.ref s1.heap.objs.size) (.ref s1.heap.objs.size) from rfl) (fun s3 I3 => ?_) hxf
  have J := I3.toTry X.xe
  have q := h fcs s1.heap.objs.size H1 eN t1 LA.1 hc fresh
  have run := (hr (X.pn ++ (pins' ++ pins)) fcs (LA.mono fun p hp => List.mem_append_right _ hp)).run [] s3 _ _ D J q
  refine thn run fun f s4 q4 => ?_
  cases f with
  | next => obtain ⟨σ', H', J', d⟩ := q4; exact ⟨σ', H', inv_less (J'.ofTry I.ok), d⟩
  | brk => obtain ⟨σ', H', J', d⟩ := q4; exact ⟨σ', H', inv_less (J'.ofTry I.ok), d⟩
  | cont => obtain ⟨σ', H', J', d⟩ := q4; exact ⟨σ', H', inv_less (J'.ofTry I.ok), d⟩
  | ret u => obtain ⟨v, σ', H', J', r, d⟩ := q4; exact ⟨v, σ', H', inv_less (J'.ofTry I.ok), r, d⟩
end
end NC
end S3
end
section
set_option Elab.async false
set_option linter.all false
set_option maxRecDepth 100000
set_option maxHeartbeats 4000000
namespace S3
open PySem PySem.Spec PyProof.Rows L2
noncomputable section NC
section
variable {Y : Cx}
def tLamV (q : Str) (fcs : List (Addr × Addr)) (TT : (XK → Hp → VK → Prop) → Hp → VK → Prop) (te : TE) (t : Nat → XK → TE) : TE := fun σ H Q => te σ H fun v H1 => ∃ (i : Nat) (pf : Addr × Addr), fcs[i]? = some pf ∧ [v] = [V.ref pf.1] ∧ H1 pf.2 = some (LamX.CodeO pf.2 q) ∧ TT (fun E H' Q' => t i E σ H' Q') H1 Q
theorem pe_lamval {ls : List LamD} {fcs : List (Addr × Addr)} (LA : Lams Y Y.pn ls fcs) {TT : (XK → Hp → VK → Prop) → Hp → VK → Prop} {x a : Str} {g : Addr} {k : Nat} {pg : Arguments} {bg : List Stmt} {sg : Scope} {dV kV doc pm cdv ct oc : Value} {an od : Option Addr} {osl : Array (Option Value)} {Ng : List Str} {e : Expr} {te : TE} {t : Nat → XK → TE} {p pos : Pos}
    (hg : Gl Y x) (hm : Y.mg x = some (.ref g)) (hk : PySem.W.keepIn Y.K (.ref g) = true) (lk : Y.K.lookup g = some ⟨oc, od, .func (PySem.W.fnOf x x pg bg sg dV kV doc pm an cdv ct), osl⟩)
    (hcg : PySem.W.codeIn Y.K cdv x = true) (hb : L2.Binds Y.K (PySem.W.fnOf x x pg bg sg dV kV doc pm an cdv ct) [a] []) (Sg : FnScope Ng [a] sg) (hNg : Ng[0]? = some a) (hva : Vis sg a) (hG : LamX.GivesTo Y Ng x sg g cdv bg a (lamQ Y) TT) (hr : Room (k + 2) Y.A)
    (hL : ∀ l ∈ ls, LamX.LamS Y.env.scope l.scope) (hbind : ∀ l ∈ ls, ∀ (q : Str) (cl : List (Str × Addr)) (pm cv ctv : Value), bindArgs (PySem.W.kla_fn "<lambda>" q l.params l.body l.scope cl pm cv ctv) ⟨[], []⟩ = pure [])
    (hbody : ∀ (i : Nat) l, ls[i]? = some l → ∀ (A : Around) (outer : List Env) (s : Shared) (H : Hp) (E : XK) (f c' : Addr), Room k (A.deeper (LamX.lamEnv Y l.scope s.heap.objs.size f c')) → PE (LamX.lamCx Y A outer s H E l.scope f c') l.body (t i E))
    (he : PE Y e te) (hs1 : starEach [e] Y.env = (false, eval e Y.env) :: starEach [] Y.env := by rfl) (hpl : (backTo pos (starEach [] Y.env)).any (·.1) = false := by rfl)
    (hdb : (x == ("__debug__" : Str)) = false := by decide) (hd : (a == ("__debug__" : Str)) = false := by decide) (hcd : (a == ("__classdict__" : Str)) = false := by decide) :
    PE Y (.Call (.Name x p) [e] [] pos) (tLamV (lamQ Y) fcs TT te t) := by
  refine ⟨fun pins s σ H Q I h => wpAny_Call_Name_kw (ld_glob I hg hm ?_ hdb)⟩
  refine PySem.W.callWith_K (h₀ := Y.base) I.ok.mod.kin hk (thn ((pa_cons he pa_nil hs1).run pos pins s σ H (fun us H1 => ∃ (i : Nat) (pf : Addr × Addr), fcs[i]? = some pf ∧ us = [V.ref pf.1] ∧ H1 pf.2 = some (LamX.CodeO pf.2 (lamQ Y)) ∧ TT (fun E H' Q' => t i E σ H' Q') H1 Q) I ?_) fun us s1 ⟨vs, H1, I1, r1, i, pf, efc, evf, hco, htt⟩ => ⟨I1.kIn, ?_⟩) hs1 hpl
  · exact h
  · subst evf
    obtain rfl : us = [Value.ref pf.1] := Vals.ref1 r1
    obtain ⟨l, el⟩ : ∃ l, ls[i]? = some l := ⟨ls[i]'(by rw [← LA.1]; exact (List.getElem?_eq_some_iff.mp efc).1), List.getElem?_eq_getElem _⟩
    have hlm : l ∈ ls := List.mem_of_getElem? el
    obtain ⟨o, mo, pm', ctv, eo⟩ := LA.2 i l pf el efc
    subst eo
    obtain ⟨hf, hfn, n1, n2, _⟩ := I1.pin _ (List.mem_append_left _ mo)
    have hfr : pf.1 ∉ frs Y.stack := fun z => by
      rcases List.mem_cons.mp (I1.stkSub _ z) with e | e
      · exact n1 e
      · exact n2 e
    have rc : codeAny (model Y.prog Y.w) Y.A (.call (.ref g) ⟨[.ref pf.1], []⟩) (CR C8.CX0 Y.stack Y.prog Y.w H1 s1 Q C8.E0) s1 := by
      refine LamX.run_ofS (ps := [a]) (N := Ng) (vs := [.ref pf.1]) (us := [.ref pf.1]) lk hcg Sg hr I1.env0 (hb s1 [.ref pf.1] I1.kIn rfl) (.cons rfl .nil) rfl fun hr' => ?_
      obtain ⟨t', ht', hq'⟩ := hG pf.1 pf.2 s1 H1 Q (fun E H' Q' => t i E σ H' Q') (fun W pn xe E p1 p2 tk hW => LamX.pe_act I1 (hL l hlm) hf hfn hfr (hbind l hlm _ _ _ _ _) tk hW hr' (fun A outer s H hr2 => hbody i l el A outer s H E pf.1 pf.2 hr2) hNg hva hd hcd) hco htt
      exact ⟨t', ht'.nox, hq'⟩
    refine wpAny_call (codeAny_mono rc fun r s2 hq => ?_)
    match r, hq with
    | .error _, hq => exact (show False from hq).elim
    | .ok (.ret _), hq => exact I1.after hq
    | .ok .next, hq => exact (show False from hq).elim
    | .ok .brk, hq => exact (show False from hq).elim
    | .ok .cont, hq => exact (show False from hq).elim
end
end NC
end S3
end
section
set_option Elab.async false
set_option linter.all false
set_option maxRecDepth 100000
set_option maxHeartbeats 4000000
namespace S3
open PySem PySem.Spec PyProof.Rows L2
noncomputable section NC
/-- what the class D says, so that isinstance asks its instances -/
structure KitC (K : PySem.W.Frag) (D : Addr) : Prop where
  cl : (PySem.W.clsIn K D).isSome = true
  ga : PySem.W.findIn K (.ref D) "__getattribute__" = some (some (.builtin "BaseException.__getattribute__"))
  gt : PySem.W.findIn K (.ref D) "__getattr__" = some none
  sb : PySem.W.subIn K (.ref D) (.type "BaseException") = some true
  at_ : PySem.W.findIn K (.ref D) "__class__" = some (some (.builtin "object.__class__"))
  gg : PySem.W.specialIn K (.builtin "object.__class__") "__get__" = some (some (.builtin "getset_descriptor.__get__"))
  tk : PySem.W.takesIn K (.builtin "object.__class__") = some true
  ob : PySem.W.mroIn K D (.type "object") = some true
def kitCB (K : PySem.W.Frag) (D : Addr) : Bool := (PySem.W.clsIn K D).isSome && decide (PySem.W.findIn K (.ref D) "__getattribute__" = some (some (.builtin "BaseException.__getattribute__"))) && decide (PySem.W.findIn K (.ref D) "__getattr__" = some none) && decide (PySem.W.subIn K (.ref D) (.type "BaseException") = some true) &&
  decide (PySem.W.findIn K (.ref D) "__class__" = some (some (.builtin "object.__class__"))) && decide (PySem.W.specialIn K (.builtin "object.__class__") "__get__" = some (some (.builtin "getset_descriptor.__get__"))) && decide (PySem.W.takesIn K (.builtin "object.__class__") = some true) && decide (PySem.W.mroIn K D (.type "object") = some true)
theorem kitCB_ok {K : PySem.W.Frag} {D : Addr} (h : kitCB K D = true) : KitC K D := by
  unfold kitCB at h
  simp only [Bool.and_eq_true, decide_eq_true_eq] at h
  obtain ⟨⟨⟨⟨⟨⟨⟨h1, h2⟩, h3⟩, h4⟩, h5⟩, h6⟩, h7⟩, h8⟩ := h
  exact ⟨h1, h2, h3, h4, h5, h6, h7, h8⟩
section
variable {X : Cx}
def rIsX (K : PySem.W.Frag) (D a : Addr) (d : Option Addr) : List V → Hp → VK → Prop := fun xs H Q => dOk H d ∧ ∃ (c : V) (cv : Value) (b : Bool), xs = [.ref a, c] ∧ (∀ u, RelV c u → u = cv) ∧ PySem.W.kitOne K (.ref D) cv = some b ∧ Q (.bl b) H
theorem call_isX {a D : Addr} {d : Option Addr} {oe : Obj} {pn : List (Addr × Obj)} (C : KitC X.K D) (hz : Zc (.ref D) d oe) (hf : ∃ vs, oe.data = .fields vs) : CallR (X.suite a ((a, oe) :: pn)) (.builtin "isinstance") (rIsX X.K D a d) := by
  intro pins s σ H xs us Q I r hh
  obtain ⟨hd, c, cv, b, ex, hcv, e, q⟩ := hh
  subst ex
  obtain ⟨u1, u2, eu, ru1, ru2⟩ : ∃ u1 u2, us = [u1, u2] ∧ RelV (V.ref a) u1 ∧ RelV c u2 := by
    cases r with
    | cons p q =>
      cases q with
      | cons p2 q2 => cases q2; exact ⟨_, _, rfl, p, p2⟩
  subst eu
  obtain rfl : u1 = Value.ref a := ru1
  obtain rfl : u2 = cv := hcv _ ru2
  obtain ⟨hget, _⟩ := I.pin (a, oe) (List.mem_append_left _ List.mem_cons_self)
  obtain ⟨vs, hv⟩ := hf
  obtain ⟨od, J⟩ : ∃ od, PySem.W.InstAt s.heap a oe D od := by
    obtain ⟨h1, h2⟩ := hz
    have no : PySem.W.notCls oe = true := by
      unfold PySem.W.notCls
      rw [hv] <;> rfl
    cases d with
    | none => exact ⟨none, hget, h1, no, by rw [h2]; trivial⟩
    | some dx =>
      obtain ⟨ws, hx⟩ := hd
      have hxd : ObjOk X.prog X.w H s.heap dx (.xd ws) := I.hok dx _ hx
      obtain ⟨mA, hns, _⟩ := hxd
      obtain ⟨od, ho, _⟩ := lookIn_ns hns
      exact ⟨some od, hget, h1, no, by rw [h2]; exact ho⟩
  exact PySem.W.kia_one (PySem.W.kitx_exc C.cl C.ga C.gt C.sb C.at_ C.gg C.tk C.ob) I.kIn J e (fun z => nomatch z) fun tk => ⟨.bl b, H, I.kept (t' := tk) fun _ _ z => z, rfl, q⟩
def tIs (i : Nat) (a : Addr) (d : Option Addr) (b : Bool) : TE := fun σ H Q => σ[i]? = some (some (V.ref a)) ∧ dOk H d ∧ Q (.bl b) H
def tIsL (i : Nat) (a : Addr) (d : Option Addr) (bs : List Bool) : TA := fun σ H Q => σ[i]? = some (some (V.ref a)) ∧ dOk H d ∧ Q (bs.map V.bl) H
theorem pe_isX {x n : Str} {e : Expr} {i : Nat} {a D : Addr} {d : Option Addr} {oe : Obj} {pn : List (Addr × Obj)} {c : V} {cv : Value} {b : Bool} {p p1 pos : Pos} (C : KitC X.K D) (hz : Zc (.ref D) d oe) (hf : ∃ vs, oe.data = .fields vs) (hk : PySem.W.kitOne X.K (.ref D) cv = some b) (hcv : ∀ u, RelV c u → u = cv)
    (hg : Gl X "isinstance") (hm : X.mg "isinstance" = none) (hv : bootBuiltins "isinstance" = some (.builtin "isinstance")) (hN : X.N[i]? = some n) (hvis : Vis X.env.scope n) (hdn : (n == ("__debug__" : Str)) = false) (hdc : (n == ("__classdict__" : Str)) = false) (he : PE (X.suite a ((a, oe) :: pn)) e (tC c))
    (hs1 : starEach [.Name n p1, e] X.env = (false, eval (.Name n p1) X.env) :: starEach [e] X.env := by rfl) (hs2 : starEach [e] X.env = (false, eval e X.env) :: starEach [] X.env := by rfl) (hpl : (backTo pos (starEach [e] X.env)).any (·.1) = false := by rfl) :
    PE (X.suite a ((a, oe) :: pn)) (.Call (.Name "isinstance" p) [.Name n p1, e] [] pos) (tIs i a d b) :=
  PE.imp (pe_callB (call_isX C hz hf) hg hm hv (pa_cons (pe_var (X := X.suite a ((a, oe) :: pn)) (i := i) hN hvis hdn hdc) (pa_cons he pa_nil hs2) hs1) (by decide) (by decide) hs1 hpl) fun σ H Q ⟨e1, e2, q⟩ => ⟨_, e1, e2, c, cv, b, rfl, hcv, hk, q⟩
theorem pa_isN {i : Nat} {a : Addr} {d : Option Addr} : PA X [] (tIsL i a d []) := PA.imp pa_nil fun σ H Q h => h.2.2
theorem pa_isC {i : Nat} {a : Addr} {d : Option Addr} {b : Bool} {bs : List Bool} {e : Expr} {es : List Expr} (he : PE X e (tIs i a d b)) (h : PA X es (tIsL i a d bs)) (hs : starEach (e :: es) X.env = (false, eval e X.env) :: starEach es X.env := by rfl) : PA X (e :: es) (tIsL i a d (b :: bs)) :=
  PA.imp (pa_cons he h hs) fun σ H Q ⟨e1, e2, q⟩ => ⟨e1, e2, e1, e2, q⟩
/-- the suite: x = [..]; x = x + [..]; return x + [..] -/
def tUnder (i j : Nat) (a : Addr) (d : Option Addr) (bs : List Bool) : L2.TS := fun D σ H => σ[i]? = some (some (V.ref a)) ∧ j < σ.length ∧ dOk H d ∧ ∀ p H', (∀ b u, H b = some u → H' b = some u) → H p = none → H' p = some (.lst (bs.map V.bl)) → D.rt (.ref p) H'
theorem dOk.up {H H' : Hp} {d : Option Addr} (h : dOk H d) (k : ∀ b u, H b = some u → H' b = some u) : dOk H' d := by
  cases d with
  | none => trivial
  | some dx => obtain ⟨ws, e⟩ := h; exact ⟨ws, k _ _ e⟩
theorem up_new {H : Hp} {p : Addr} {o : HO} (hp : H p = none) : ∀ b u, H b = some u → upd H p o b = some u := fun b u e => by rw [upd_ne (fun z => by rw [z, hp] at e; cases e)]; exact e
theorem pss_under {i j : Nat} {a : Addr} {d : Option Addr} {x : Str} {es1 es2 es3 : List Expr} {bs1 bs2 bs3 : List Bool} {px px2 px3 px4 l1 l2 l3 b2 b3 p1 p2 p3 : Pos} (hN : X.N.Nodup) (hj : X.N[j]? = some x) (hij : i ≠ j) (hx : X.env.scope.names.lookup x = some .local) (hd : (x == ("__debug__" : Str)) = false) (hc : (x == ("__classdict__" : Str)) = false)
    (h1 : PA X es1 (tIsL i a d bs1)) (h2 : PA X es2 (tIsL i a d bs2)) (h3 : PA X es3 (tIsL i a d bs3)) (z1 : bs1.length + bs2.length + bs3.length ≤ 1000)
    (s1 : swapsWith (.List es1 l1) (some (.Name x px)) p1.line X.env = pure false) (s2 : swapsWith (.BinOp (.Name x px3) .Add (.List es2 l2) b2) (some (.Name x px2)) p2.line X.env = pure false) :
    PSs X [.Assign [.Name x px] (.List es1 l1) p1, .Assign [.Name x px2] (.BinOp (.Name x px3) .Add (.List es2 l2) b2) p2, .Return (some (.BinOp (.Name x px4) .Add (.List es3 l3) b3)) p3] (tUnder i j a d (bs1 ++ bs2 ++ bs3)) := by
  refine PSs.imp (pss_cons (ps_set hN hj (.inl hx) (pe_lst h1) s1 (.inr hx)) (pss_cons (ps_set hN hj (.inl hx) (pe_op op_catR (pe_var (i := j) hj (.inl hx) hd hc) (pe_lst h2)) s2 (.inr hx)) (pss_one (ps_ret (pe_op op_catR (pe_var (i := j) hj (.inl hx) hd hc) (pe_lst h3)))))) fun D σ H ⟨e1, hl, dk, q⟩ => ?_
  have g1 : ∀ v : V, (σ.set j (some v))[i]? = some (some (V.ref a)) := fun v => by rw [List.getElem?_set_ne (fun z => hij z.symm)]; exact e1
  have g2 : ∀ v w : V, ((σ.set j (some v)).set j (some w))[i]? = some (some (V.ref a)) := fun v w => by rw [List.getElem?_set_ne (fun z => hij z.symm)]; exact g1 v
  have hn : (1000 : Nat) ≤ sizeLine := by unfold sizeLine; omega
  refine ⟨e1, dk, by rw [List.length_map]; omega, fun q1 hq1 => ?_⟩
  have k1 := up_new (o := .lst (bs1.map V.bl)) hq1
  refine ⟨V.ref q1, by rw [List.getElem?_set_self hl], g1 _, dk.up k1, by rw [List.length_map]; omega, fun q2 hq2 => ?_⟩
  have k2 := up_new (o := .lst (bs2.map V.bl)) hq2
  refine ⟨q1, q2, bs1.map V.bl, bs2.map V.bl, rfl, rfl, .inl (k2 _ _ upd_same), .inl upd_same, by rw [List.length_map, List.length_map]; omega, fun q3 hq3 => ?_⟩
  have k3 := up_new (o := .lst (bs1.map V.bl ++ bs2.map V.bl)) hq3
  refine ⟨V.ref q3, by rw [List.getElem?_set_self (by rw [List.length_set]; exact hl)], g2 _ _, (dk.up k1).up fun b u e => k3 _ _ (k2 _ _ e), by rw [List.length_map]; omega, fun q4 hq4 => ?_⟩
  have k4 := up_new (o := .lst (bs3.map V.bl)) hq4
  refine ⟨q3, q4, bs1.map V.bl ++ bs2.map V.bl, bs3.map V.bl, rfl, rfl, .inl (k4 _ _ upd_same), .inl upd_same, by simp only [List.length_append, List.length_map]; omega, fun q5 hq5 => ?_⟩
  have k5 := up_new (o := .lst (bs1.map V.bl ++ bs2.map V.bl ++ bs3.map V.bl)) hq5
  have old : ∀ b u, H b = some u → upd (upd (upd (upd (upd H q1 (.lst (bs1.map V.bl))) q2 (.lst (bs2.map V.bl))) q3 (.lst (bs1.map V.bl ++ bs2.map V.bl))) q4 (.lst (bs3.map V.bl))) q5 (.lst (bs1.map V.bl ++ bs2.map V.bl ++ bs3.map V.bl)) b = some u := fun b u e => k5 _ _ (k4 _ _ (k3 _ _ (k2 _ _ (k1 _ _ e))))
  refine q q5 _ old ?_ (by rw [upd_same, List.map_append, List.map_append])
  cases k : H q5 with
  | none => rfl
  | some u => rw [k4 _ _ (k3 _ _ (k2 _ _ (k1 _ _ k)))] at hq5; cases hq5
def TUnder (K : PySem.W.Frag) (CS : Addr) (fn : Addr → Option (List Bool)) : (XK → Hp → VK → Prop) → Hp → VK → Prop := fun tl H Q =>
  tl (fun cls d H' => ∃ (D0 : Addr) (bs : List Bool), cls = .ref D0 ∧ PySem.W.exmOne K (.ref D0) (.ref CS) = some true ∧ fn D0 = some bs ∧ dOk H' d ∧ ∀ p H'', (∀ b u, H' b = some u → H'' b = some u) → H' p = none → H'' p = some (.lst (bs.map V.bl)) → Q (.ref p) H'') H
    (fun _ H1 => ([] : List V).length ≤ sizeLine ∧ ∀ p, H1 p = none → Q (.ref p) (upd H1 p (.lst [])))
theorem under_gives {Ng : List Str} {x a cs n q : Str} {sg : Scope} {g CS : Addr} {cdg : Value} {i j : Nat} {b₀ : Stmt} {suite : List Stmt} {fn : Addr → Option (List Bool)} {p1 p2 p3 p4 p5 p6 p7 l9 : Pos} (hge : sg.names.lookup cs = some .globalImplicit) (hme : X.mg cs = some (.ref CS)) (hde : (cs == ("__debug__" : Str)) = false) (h0 : ∀ f : Addr, (L2.start Ng [V.ref f])[0]? = some (some (V.ref f)))
    (hNg : Ng.Nodup) (hi : Ng[i]? = some n) (hjn : j < Ng.length) (hln : sg.names.lookup n = some .local)
    (hsuite : ∀ (D0 : Addr) (bs : List Bool), fn D0 = some bs → ∀ (s : Shared) (H : Hp) (e : Addr) (oe : Obj) (d : Option Addr) (pn : List (Addr × Obj)), Zc (.ref D0) d oe → (∃ vs, oe.data = .fields vs) →
      PSs ((cxOf C8.CX0 X.prog X.w X.K X.mg X.base Ng x sg g cdg X.A X.stack s H C8.E0).nox.suite e ((e, oe) :: pn)) (b₀ :: suite) (tUnder i j e d bs)) :
    LamX.GivesTo X Ng x sg g cdg [.Try [.Expr (.Call (.Name a p1) [] [] p2) p3] [.ExceptHandler (some (.Name cs p4)) (some n) (b₀ :: suite) p5] [] [] p6, .Return (some (.List [] l9)) p7] a q (TUnder X.K CS fn) := by
  intro f c' s H Q tl act hc htt
  have hgl : Gl (cxOf C8.CX0 X.prog X.w X.K X.mg X.base Ng x sg g cdg X.A X.stack s H C8.E0).nox cs := hge
  refine ⟨_, pss_cons (ps_try_as (X := (cxOf C8.CX0 X.prog X.w X.K X.mg X.base Ng x sg g cdg X.A X.stack s H C8.E0).nox) (c := .ref CS) (i := i) (n := n)
      (tb := fun W D σ H => ∃ Ech : XK, (∀ cls d σ' H', Ech cls d H' → W cls d σ' H') ∧ σ[0]? = some (some (.ref f)) ∧ H c' = some (LamX.CodeO c' q) ∧ tl Ech H fun _ H1 => D.nx σ H1)
      (ts := fun e cls d D σ H => ∃ (D0 : Addr) (bs : List Bool), cls = .ref D0 ∧ fn D0 = some bs ∧ (∃ σ0 : L2.St, σ = σ0.set i (some (.ref e))) ∧ dOk H d ∧ ∀ p H', (∀ b u, H b = some u → H' b = some u) → H p = none → H' p = some (.lst (bs.map V.bl)) → D.rt (.ref p) H')
      rfl rfl hNg hi hln ⟨hgl, hde, .inl hme⟩ LamX.takes0 (fun W pn xe tk _ => ?_) (fun e oe cls d pn hz hf => ?_)) (pss_one (ps_ret (pe_lst pa_nil))), ?_⟩
  · refine ⟨fun pins s' σ H' D I h' => ?_⟩
    obtain ⟨Ech, hW, h1, h2, h3⟩ := h'
    exact (pss_one (ps_expr (pos := p3) (act W pn xe Ech p1 p2 tk hW))).run pins s' σ H' D I ⟨h1, h2, h3⟩
  · refine ⟨fun pins s' σ H' D I h' => ?_⟩
    obtain ⟨D0, bs, ec, ef, ⟨σ0, es⟩, dk, qq⟩ := h'
    subst ec
    have hl : σ.length = Ng.length := I.len
    have hi' : i < Ng.length := (List.getElem?_eq_some_iff.mp hi).1
    have e1 : σ[i]? = some (some (V.ref e)) := by
      rw [es] at hl ⊢
      rw [List.length_set] at hl
      rw [List.getElem?_set_self (by omega)]
    exact (hsuite D0 bs ef s H e oe d pn hz hf).run pins s' σ H' D I ⟨e1, by omega, dk, qq⟩
  · refine ⟨_, fun cls d σ' H' hh => ?_, h0 f, hc, htt⟩
    obtain ⟨D0, bs, ec, ex, ef, dk, qq⟩ := hh
    subst ec
    exact ⟨true, ex, fun _ e _ => ⟨D0, bs, rfl, ef, ⟨σ', rfl⟩, dk, qq⟩, fun z => nomatch z⟩
end
end NC
end S3
end
section
set_option Elab.async false
set_option linter.all false
set_option maxRecDepth 100000
set_option maxHeartbeats 4000000
namespace S3
open PySem PySem.Spec PyProof.Rows L2
noncomputable section NC
section
variable {B : Bx} {X : Cx} {W : WX}
theorem HR.noext {ρ : List Addr} {F H : Hp} {h : AH} (x : HR B ρ F h H) {p : Addr} {φ : Heap → Prop} (e : H p = some (.ext φ)) : p ∉ ρ := fun m => by
  obtain ⟨i, o, _, _, r⟩ := x.at m
  have inj : ∀ u, H p = some u → u = .ext φ := fun u e2 => Option.some.inj (e2.symm.trans e)
  cases o with
  | lck o =>
    cases o with
    | lck o' =>
      obtain ⟨_, u, _, e2, _, z⟩ := r
      have k := inj u e2
      subst k
      rcases z with ⟨_, _, z⟩ | ⟨_, _, _, z⟩ <;> cases z
    | lst _ => obtain ⟨ob, u, e2, _⟩ := r; cases inj _ e2
    | dK _ => obtain ⟨ob, u, e2, _⟩ := r; cases inj _ e2
    | dT _ => obtain ⟨ob, u, e2, _⟩ := r; cases inj _ e2
    | ins _ _ => obtain ⟨ob, u, e2, _⟩ := r; cases inj _ e2
  | lst _ => obtain ⟨u, e2, vs, z, _⟩ := r; rw [inj u e2] at z; cases z
  | dK _ => obtain ⟨u, e2, vs, z, _⟩ := r; rw [inj u e2] at z; cases z
  | dT _ => obtain ⟨u, e2, vs, z, _⟩ := r; rw [inj u e2] at z; cases z
  | ins _ _ => obtain ⟨u, e2, C, dx, ws, z, _⟩ := r; rw [inj u e2] at z; cases z
theorem rvs_bl {ρ : List Addr} {F : Hp} : ∀ bs : List Bool, RVs B ρ F (bs.map AV.bl) (bs.map V.bl)
  | [] => rfl
  | b :: bs => ⟨V.bl b, bs.map V.bl, rfl, rfl, rvs_bl bs⟩
def mLams (cl : List (Str × List Bool)) (iw ik : Nat) (mk : ME) (ms : List ME) (mr : ME) : MS := fun s h => if iw < s.length ∧ ik < s.length then (mk (s.set iw none) h).toS (s.set iw none) fun a h1 => match a with
  | .int n => if n < 0 then .stk else match ms[n.toNat]? with
    | some m => (match m ((s.set iw none).set ik (some (.int n))) h1 with
      | .exc c _ h2 => (match cl.lookup c with
        | some bs => (mr ((s.set iw none).set ik (some (.int n))) h2).toS ((s.set iw none).set ik (some (.int n))) fun b h3 => (match gEq true (.lst (bs.map .bl)) b h3 with
          | some (.bl true) => .rt (.bl false) h3
          | some (.bl false) => .nx ((s.set iw none).set ik (some (.int n))) h3
          | _ => .stk)
        | none => .stk)
      | _ => .stk)
    | none => .stk
  | _ => .stk
  else .stk
theorem sss_lams {cl : List (Str × List Bool)} {iw ik : Nat} {xw xk x a : Str} {c P g CS : Addr} {k : Nat} {ls : List LamD} {ms : List ME} {mk mr : ME} {ek er : Expr} {fn : Addr → Option (List Bool)} {st : Stmt} {fd : FuncData} {cg : Addr} {Ng : List Str} {pxw lpos pos1 pxk pos2 p1 p2 p3 p4 p5 p6 p7 p8 p9 : Pos} {j9 : Nat}
    (hN : X.N.Nodup) (hi : X.N[iw]? = some xw) (hxw : Loc X.env.scope xw) (hfw : X.fn xw = true ∨ X.env.scope.names.lookup xw = some .local) (hik : X.N[ik]? = some xk) (hxk : Loc X.env.scope xk) (hfk : X.fn xk = true ∨ X.env.scope.names.lookup xk = some .local) (hne : iw ≠ ik)
    (TB : LamX.TabB X.base X.mg c P) (hcode : X.env.code = .ref c) (hm : (P, lamQ X) ∈ B.T) (hu : ∀ p ∈ B.T, p.1 = P → p.2 = lamQ X) (hs : X.stack = X.env :: X.outer) (hfr0 : X.env.frame = some X.env.locals)
    (hl : ∀ l ∈ ls, defaultsOf l.params X.env = ([], []) ∧ LamX.LamS X.env.scope l.scope) (hz : ls.length ≤ 100)
    (hst : starEach (ls.map LamD.ex) X.env = ls.map fun l => (false, eval l.ex X.env)) (hsw : swapsWith (.List (ls.map LamD.ex) lpos) (some (.Name xw pxw)) pos1.line X.env = pure false) (hsw2 : swapsWith ek (some (.Name xk pxk)) pos2.line X.env = pure false)
    (hek : ∀ pn, SE B (X.tr pn X.xe) W ek mk) (her : ∀ pn, SE B (X.tr pn X.xe) W er mr) (hlen : ms.length = ls.length)
    (Fu : FunC B.K x x st g fd cg) (hgm : B.mg x = some (.ref g)) (hb : L2.Binds B.K fd [a] []) (Sg : FnScope Ng [a] (defScope st)) (hNg : Ng[0]? = some a) (hva : Vis (defScope st) a) (hG : ∀ pn, LamX.GivesTo (X.tr pn X.xe) Ng x (defScope st) g (.ref cg) (defBody st) a (lamQ X) (TUnder B.K CS fn)) (hg : Gl X x) (hr : Room (k + 2) X.A)
    (hbind : ∀ l ∈ ls, ∀ (q : Str) (cl : List (Str × Addr)) (pm cv ctv : Value), bindArgs (PySem.W.kla_fn "<lambda>" q l.params l.body l.scope cl pm cv ctv) ⟨[], []⟩ = pure [])
    (hbody : ∀ (i : Nat) l m, ls[i]? = some l → ms[i]? = some m → ∀ (A : Around) (outer : List Env) (s : Shared) (H : Hp) (E : XK) (f c' : Addr), Room k (A.deeper (LamX.lamEnv X l.scope s.heap.objs.size f c')) → SE B (LamX.lamCx X A outer s H E l.scope f c') (fun cls d _ H => E cls d H) l.body m)
    (hcl : ∀ c' bs, cl.lookup c' = some bs → ∀ C, B.mg c' = some (.ref C) → PySem.W.exmOne B.K (.ref C) (.ref CS) = some true ∧ fn C = some bs)
    (hop : ∀ pn, OpR (X.tr pn X.xe) (compareOp .NotEq) (rm2 B (gEq true))) (hK : X.K = B.K) (hmg : X.mg = B.mg) (hdw : (xw == ("__debug__" : Str)) = false) (hcw : (xw == ("__classdict__" : Str)) = false) (hdk : (xk == ("__debug__" : Str)) = false) (hck : (xk == ("__classdict__" : Str)) = false)
    (hdx : (x == ("__debug__" : Str)) = false) (hda : (a == ("__debug__" : Str)) = false) (hca : (a == ("__classdict__" : Str)) = false)
    (hsc : starEach [.Subscript (.Name xw p2) (.Name xk p3) p4] X.env = (false, eval (.Subscript (.Name xw p2) (.Name xk p3) p4) X.env) :: starEach [] X.env) (hbm : behindInMarks .NotEq er = false) :
    SSs B X W [.Assign [.Name xw pxw] (.List (ls.map LamD.ex) lpos) pos1, .Assign [.Name xk pxk] ek pos2, .If (.Compare (.Call (.Name x p1) [.Subscript (.Name xw p2) (.Name xk p3) p4] [] p5) [.NotEq] [er] p6) [.Return (some (.Constant (.bool false) j9 p7)) p8] [] p9] (mLams cl iw ik mk ms mr) := by
  obtain ⟨oc, od, dV, kV, doc, pm, an, ct, osl, e1, lk, hcg⟩ := Fu.ex
  subst e1
  have hn : (100 : Nat) ≤ sizeLine := by unfold sizeLine; omega
  have rest : ∀ (pn : List (Addr × Obj)) (fcs : List (Addr × Addr)), Lams X pn ls fcs → PSs (X.tr pn X.xe) [.Assign [.Name xk pxk] ek pos2, .If (.Compare (.Call (.Name x p1) [.Subscript (.Name xw p2) (.Name xk p3) p4] [] p5) [.NotEq] [er] p6) [.Return (some (.Constant (.bool false) j9 p7)) p8] [] p9]
      (tSeq (tAsg (tm B W mk) (gName ik)) (tIfS (tTest (tOp (rm2 B (gEq true)) (tLamV (lamQ X) fcs (TUnder B.K CS fn) (tOp (rIxL X.K) (tVar iw) (tVar ik)) (fun i E => match ms[i]? with
        | some m => tm B (fun cls d _ H => E cls d H) m
        | none => fun _ _ _ => False)) (tm B W mr))) (tRet (tC (.bl false))) tNext)) := fun pn fcs LA => by
    refine pss_cons (ps_set (X := X.tr pn X.xe) hN hik hxk (hek pn) hsw2 hfk) (pss_one (ps_if (pt_cmpR (hop pn) (pe_lamval (Y := X.tr pn X.xe) (k := k) LA hg (by show X.mg x = _; rw [hmg]; exact hgm) (by show PySem.W.keepIn X.K _ = _; rw [hK]; exact Fu.kp) (by show X.K.lookup g = _; rw [hK]; exact lk) (by show PySem.W.codeIn X.K _ _ = _; rw [hK]; exact hcg) (by show L2.Binds X.K _ _ _; rw [hK]; exact hb) Sg hNg hva (hG pn) hr (fun l h => (hl l h).2) hbind (fun i l el A outer s H E f c' hr2 => ?_)
      (pe_ix (X := X.tr pn X.xe) ix_list (pe_var (X := X.tr pn X.xe) (i := iw) hi (hxw.imp id .inl) hdw hcw) (pe_var (X := X.tr pn X.xe) (i := ik) hik (hxk.imp id .inl) hdk hck) (by intro _ _; rfl)) hsc (by rfl) hdx hda hca) (her pn) hbm) (pss_one (ps_ret pe_bl)) pss_nil))
    obtain ⟨m, em⟩ : ∃ m, ms[i]? = some m := ⟨ms[i]'(by rw [hlen]; exact (List.getElem?_eq_some_iff.mp el).1), List.getElem?_eq_getElem _⟩
    rw [em]
    exact hbody i l m el em A outer s H E f c' hr2
  refine PSs.imp (pss_lams hN hi hxw hfw TB hcode hm hu hs hfr0 hl (by omega) hst hsw rest) fun D σ H ⟨ρ, F, h, s, sr, hr0, p⟩ => ?_
  refine ⟨hr0.tab, fun fcs L H1 eN t1 hlf hc hL => ?_⟩
  obtain ⟨hr1, ex1⟩ := hr0.tabbed eN t1
  have up2 := up_new (o := .lst (fcs.map fun p => V.ref p.1)) hL
  have hr2 : HR B ρ F h (upd H1 L (.lst (fcs.map fun p => V.ref p.1))) := hr1.extra (hr1.out hL) (hr1.fnone hL) (.inl hL)
  have ex2 : Ext ρ F H ρ F (upd H1 L (.lst (fcs.map fun p => V.ref p.1))) := ex1.trans (Ext.grow up2)
  have sr2 : SR B ρ F (s.set iw none) (σ.set iw (some (.ref L))) := ⟨by rw [List.length_set, List.length_set]; exact sr.1, fun i b e => by
    by_cases z : i = iw
    · subst z
      rw [List.getElem?_set] at e
      split at e
      · split at e <;> cases e
      · exact absurd rfl (by assumption)
    · rw [List.getElem?_set_ne (fun y => z y.symm)] at e ⊢
      exact sr.2 i b e⟩
  have p : PostS B ρ F H (mLams cl iw ik mk ms mr s h) D W := p
  unfold mLams at p
  have hlen2 : iw < s.length ∧ ik < s.length := by
    refine Decidable.byContradiction fun z => ?_
    rw [if_neg z] at p
    exact p.elim
  rw [if_pos hlen2] at p
  refine ⟨ρ, F, h, s.set iw none, sr2, hr2, PostS.expr sr2 (PostS.ext ex2 p) fun a h1 ρ1 F1 H3 xv _ e1 hr3 ra sr3 p1 => ?_⟩
  cases a with
  | int n =>
    obtain rfl : xv = V.int n := ra
    simp only at p1
    split at p1
    · exact p1.elim
    · rename_i n0
      cases em : ms[n.toNat]? with
      | none => rw [em] at p1; exact p1.elim
      | some m =>
        rw [em] at p1
        simp only at p1
        have hnl : n.toNat < fcs.length := by rw [hlf, ← hlen]; exact (List.getElem?_eq_some_iff.mp em).1
        have iwl : iw < σ.length := by rw [← sr.1]; exact hlen2.1
        have ikl : ik < σ.length := by rw [← sr.1]; exact hlen2.2
        have efc : fcs[n.toNat]? = some fcs[n.toNat] := List.getElem?_eq_getElem hnl
        generalize fcs[n.toNat] = pf at efc
        have hcp := hc pf (List.mem_of_getElem? efc)
        have nL : L ∉ ρ := hr1.out hL
        have HL : H3 L = some (.lst (fcs.map fun p => V.ref p.1)) := e1.keep L _ upd_same nL (by intro _ z; cases z)
        have HC : H3 pf.2 = some (LamX.CodeO pf.2 (lamQ X)) := e1.keep pf.2 _ (up2 _ _ hcp) (hr1.noext hcp) LamX.codeO_ne
        have sr4 : SR B ρ1 F1 ((s.set iw none).set ik (some (.int n))) ((σ.set iw (some (.ref L))).set ik (some (.int n))) := sr3.set (show RV B ρ1 F1 (.int n) (.int n) from rfl) ik
        refine ⟨.ref L, by rw [List.getElem?_set_ne (fun z => hne z.symm), List.getElem?_set_self iwl], .int n, by rw [List.getElem?_set_self (by rw [List.length_set]; exact ikl)], L, fcs.map fun p => V.ref p.1, n, V.ref pf.1, rfl, rfl, .inl (.inl HL), ?_, n.toNat, pf, efc, rfl, HC, ?_⟩
        · rw [S3.atI_nat (by omega), List.getElem?_map, efc]; rfl
        · show (match ms[n.toNat]? with
            | some m => tm B _ m
            | none => fun _ _ _ => False) _ _ _
          rw [em]
          refine ⟨ρ1, F1, h1, _, sr4, hr3, ?_⟩
          cases er0 : m ((s.set iw none).set ik (some (.int n))) h1 with
          | ok b h2 => rw [er0] at p1; exact p1.elim
          | stk => rw [er0] at p1; exact p1.elim
          | exc c' fs h2 =>
            rw [er0] at p1
            simp only at p1
            cases ecl : cl.lookup c' with
            | none => rw [ecl] at p1; exact p1.elim
            | some bs =>
              rw [ecl] at p1
              simp only at p1
              intro ρ2 F2 H4 cls d e2 hr4 ee
              obtain ⟨C, hC, ec, e3⟩ := ee
              obtain ⟨x1, x2⟩ := hcl c' bs ecl C hC
              refine ⟨C, bs, ec, x1, x2, ?_, fun q H5 k5 hq hq5 => ?_⟩
              · rcases e3 with ⟨_, dk⟩ | ⟨dx, ws, ed, eH, _⟩
                · exact dk
                · rw [ed]; exact ⟨ws, eH⟩
              · have f2 : F2 q = none := hr4.fnone hq
                have hr5 : HR B ρ2 (upd F2 q (.lst (bs.map V.bl))) h2 H5 := (hr4.grow k5).intoF (hr4.out hq) f2 hq5
                have e5 : Ext ρ2 F2 H4 ρ2 (upd F2 q (.lst (bs.map V.bl))) H5 := (Ext.grow k5).intoF f2 hq
                have sr5 := sr4.ext (e2.trans e5)
                refine ⟨ρ2, _, h2, _, sr5, hr5, PostS.expr sr5 (PostS.ext (e2.trans e5) p1) fun b h3 ρ3 F3 H6 y _ e6 hr6 rb sr6 p6 => ?_⟩
                have ra6 : RV B ρ3 F3 (.lst (bs.map .bl)) (.ref q) := RV.ext e6 (show RV B ρ2 _ (.lst (bs.map .bl)) (.ref q) from ⟨q, bs.map V.bl, rfl, .inl upd_same, rvs_bl bs⟩)
                cases eg : gEq true (.lst (bs.map .bl)) b h3 with
                | none => rw [eg] at p6; exact p6.elim
                | some r =>
                  rw [eg] at p6
                  refine ⟨ρ3, F3, h3, _, b, r, hr6, ra6, rb, eg, fun ρ7 F7 H7 z e7 hr7 rz => ?_⟩
                  cases r with
                  | bl t =>
                    obtain rfl : z = V.bl t := rz
                    refine ⟨t, rfl, ?_⟩
                    cases t with
                    | true => exact p6 _ _ _ _ e7 hr7 rfl
                    | false => exact p6 _ _ _ _ e7 hr7 (sr6.ext e7)
                  | _ => exact p6.elim
  | _ => exact p1.elim
/-- the table of answers -/
def allK (K : PySem.W.Frag) (D0 : Addr) : List Value → Option (List Bool)
  | [] => some []
  | c :: r => (PySem.W.kitOne K (.ref D0) c).bind fun b => (allK K D0 r).bind fun bs => some (b :: bs)
def fnK (K : PySem.W.Frag) (cs : List Value) (D0 : Addr) : Option (List Bool) := if kitCB K D0 = true then allK K D0 cs else none
theorem fnK_ok {K : PySem.W.Frag} {cs : List Value} {D0 : Addr} {bs : List Bool} (h : fnK K cs D0 = some bs) : KitC K D0 ∧ allK K D0 cs = some bs := by
  unfold fnK at h
  split at h
  · rename_i k; exact ⟨kitCB_ok k, h⟩
  · cases h
theorem allK_cons {K : PySem.W.Frag} {c : Value} {cs : List Value} {D0 : Addr} {bs : List Bool} (h : allK K D0 (c :: cs) = some bs) : ∃ b r, bs = b :: r ∧ PySem.W.kitOne K (.ref D0) c = some b ∧ allK K D0 cs = some r := by
  obtain ⟨b, e1, h⟩ := Option.bind_eq_some_iff.mp h
  obtain ⟨r, e2, h⟩ := Option.bind_eq_some_iff.mp h
  cases h
  exact ⟨b, r, rfl, e1, e2⟩
theorem allK_nil {K : PySem.W.Frag} {D0 : Addr} {bs : List Bool} (h : allK K D0 [] = some bs) : bs = [] := by cases h; rfl
def UnT (B : Bx) (cl : List (Str × List Bool)) (CS : Addr) (cs : List Value) : Prop := ∀ c bs, cl.lookup c = some bs → ∀ C, B.mg c = some (.ref C) → PySem.W.exmOne B.K (.ref C) (.ref CS) = some true ∧ fnK B.K cs C = some bs
def unB (K : PySem.W.Frag) (ga : Str → Addr) (cl : List (Str × List Bool)) (CS : Addr) (cs : List Value) : Bool := cl.all fun p => decide (PySem.W.exmOne K (.ref (ga p.1)) (.ref CS) = some true) && decide (fnK K cs (ga p.1) = some p.2)
theorem unT_of {K : PySem.W.Frag} {mg : Str → Option Value} {T : List (Addr × Str)} {G : List Addr} {ga : Str → Addr} {cl : List (Str × List Bool)} {CS : Addr} {cs : List Value} (h : unB K ga cl CS cs = true) (hg : ∀ c, c ∈ cl.map (·.1) → mg c = some (.ref (ga c))) : ∀ c bs, cl.lookup c = some bs → ∀ C, mg c = some (.ref C) → PySem.W.exmOne K (.ref C) (.ref CS) = some true ∧ fnK K cs C = some bs := fun c bs e C hC => by
  have hm : (c, bs) ∈ cl := PySem.mem_of_lookup e
  have k := List.all_eq_true.mp h _ hm
  simp only [Bool.and_eq_true, decide_eq_true_eq] at k
  rw [hg c (List.mem_map.mpr ⟨_, hm, rfl⟩)] at hC
  cases hC
  exact k
theorem inv_tr {pn pins : List (Addr × Obj)} {σ : L2.St} {H : Hp} {s : Shared} {xe : Value → Shared → Prop} (I : Inv (X.tr pn xe) pins σ H s) (ok : X.Ok) (h : X.pn = []) : Inv X pins σ H s :=
  ⟨ok, I.os, I.bare, I.base, I.loc, I.cell, I.free, I.freeC, fun p hp => I.pin p (by rw [h] at hp; exact List.mem_append_right _ hp), I.hok, I.len⟩
theorem takes_tr {pn : List (Addr × Obj)} (tk : L2.Takes X W) (h : X.pn = []) : L2.Takes (X.tr pn X.xe) W := fun u s' ⟨a, Bh, sI, pins, σ, H, cls, d, e, I, nb, up, sky, na, os, ag, w⟩ => tk u s' ⟨a, Bh, sI, pins, σ, H, cls, d, e, inv_tr I I.ok.ofTry h, nb, up, sky, na, os, ag, w⟩
theorem sss_fin {sts : List Stmt} {m : MS} {vs : List Nat} (h : SSs B X W sts m) : SSs B X W sts (mSeq m (mForget vs)) := PSs.imp h fun D σ H ⟨ρ, F, h, s, sr, hr, p⟩ => by
  refine ⟨ρ, F, h, s, sr, hr, ?_⟩
  have p : PostS B ρ F H ((m s h).then (mForget vs)) D W := p
  cases k : m s h with
  | nx s1 h1 =>
    rw [k] at p
    exact fun ρ' F' H' σ' e hr' sr' => p ρ' F' H' σ' e hr' (sr'.forget vs)
  | _ => rw [k] at p; exact p
/-- a text times a number -/
def gMulS : G2 := fun a b _ => match a, b with
  | .str x, .int n => if 0 ≤ n ∧ n ≤ 1000000 ∧ x.length ≤ 16 then some (.str (Txt.mul x n)) else none
  | _, _ => none
theorem op_gMulS : OpR X (binaryOp .Mult) (rm2 B gMulS) := by
  intro pins s σ H x y v u Q I rx ry hh
  obtain ⟨ρ, F, h, a, b, c, hr, ra, rb, ec, q⟩ := hh
  unfold gMulS at ec
  split at ec
  · rename_i t n
    split at ec
    · rename_i g
      cases ec
      have ra : x = .str t := ra
      have rb : y = .int n := rb
      subst ra rb
      obtain ⟨t1, rfl⟩ := rx
      obtain ⟨t2, rfl⟩ := ry
      refine SB.mul ⟨?_, fun _ _ => ?_, fun _ _ => ?_⟩ fun t' k => ⟨.str (Txt.mul t n), H, I.tok k, ⟨t', rfl⟩, q _ _ _ _ Ext.refl hr rfl⟩
      · have e1 : decide (n < -(2 ^ 63 : Int)) = false := decide_eq_false (by omega)
        have e2 : decide (n ≥ 2 ^ 63) = false := decide_eq_false (by omega)
        rw [e1, e2]; rfl
      · have h1 : (16 : Int) ≤ (2 ^ 63 - 1) / n := by
          refine (Int.le_ediv_iff_mul_le (by omega)).mpr ?_
          omega
        have := g.2.2
        omega
      · have : t.length * n.toNat ≤ 16 * 1000000 := Nat.mul_le_mul g.2.2 (by omega)
        refine decide_eq_false (fun z => ?_)
        have z : t.length * n.toNat > sizeLine := z
        unfold sizeLine at z
        omega
    · cases ec
  · cases ec
end
end NC
end S3
end
section
set_option Elab.async false
set_option linter.all false
set_option maxRecDepth 100000
set_option maxHeartbeats 4000000
namespace S9
open PySem PySem.Spec PyProof.Rows L2 S3
noncomputable section
section
variable {F : Fr} {ds : List SD} {N S R M Y : Type} {D : Ds N S R M}
def exN {M Y : Type} (t : ER M Y) : Option Str := match t with
  | .exc c _ => some c
  | _ => none
@[simp] theorem exN_exc {M Y : Type} (c : Str) (m : M) : exN (ER.exc c m : ER M Y) = some c := rfl
def MulSOk (x : Str) (n : Int) : Prop := 0 ≤ n ∧ n ≤ 1000000 ∧ x.length ≤ 16
theorem op_mulS {x : Str} {n : Int} (g : MulSOk x n) : ∀ h, gMulS (.str x) (.int n) h = some (.str (Txt.mul x n)) := fun h => if_pos g
inductive LamsX (F : Fr) (ds dd : List SD) : List ME → List (Option Str) → Prop
  | nil : LamsX F ds dd [] []
  | cons {m : ME} {Y : Type} {te : ER Unit Y} {dy : Y → List SD} {r : Y → SD} {K : Y → Prop} {ms : List ME} {cs : List (Option Str)} (p : XE F ds m te dy r (fun _ => dd) K) (h : LamsX F ds dd ms cs) : LamsX F ds dd (m :: ms) (exN te :: cs)
theorem LamsX.get {dd : List SD} {ms : List ME} {cs : List (Option Str)} (h : LamsX F ds dd ms cs) : ∀ (i : Nat) (c : Str), cs[i]? = some (some c) → ∃ m, ms[i]? = some m ∧ ∀ s h, EnvP F ds s h → ∃ h', m s h = .exc c [] h' ∧ EnvP F dd s h' := by
  induction h with
  | nil => intro i c e; cases e
  | @cons m Y te dy r K ms cs p t ih =>
    intro i c e
    cases i with
    | succ i => exact ih i c e
    | zero =>
      refine ⟨m, rfl, fun s h w => ?_⟩
      have := p s h w
      cases te with
      | ok y => cases e
      | stk => cases e
      | exc c' u => cases e; exact this
def lamsC (cl : List (Str × List Bool)) (n : Int) (cs : List (Option Str)) (L : List Bool) (rf : R) (kt : Ct N S R M) : Ct N S R M := if n < 0 then .stk else match cs[n.toNat]? with
  | some (some c) => (match cl.lookup c with
    | some bs => if bs = L then kt else .rt rf
    | none => .stk)
  | _ => .stk
theorem ts_lams {cl : List (Str × List Bool)} {iw ik : Nat} {mk mr : ME} {ms : List ME} {rest : MS} {te : ER M Y} {dy dd : Y → List SD} {n : Y → Int} {cs : Y → List (Option Str)} {L : Y → List Bool} {rf : Y → R} {kt : Y → Ct N S R M} {K : Y → Prop} (hiw : iw < ds.length) (hik : ik < ds.length) (hdy : ∀ y, (dy y).length = ds.length)
    (p : XE F (ds.set iw .dead) mk te dy (fun y => .val (.int (n y))) D.ex K) (lx : ∀ y, K y → LamsX F ((dy y).set ik (.val (.int (n y)))) (dd y) ms (cs y)) (pr : ∀ y, K y → PE F (dd y) mr (.lst ((L y).map AV.bl)))
    (q : ∀ y, K y → TS F (dd y) rest (kt y) D) (hr : ∀ y, K y → TS F (dd y) (mRet (mC (.bl false))) (.rt (rf y)) D) : TS F ds (mSeq (mLams cl iw ik mk ms mr) rest) (te.bindC fun y => lamsC cl (n y) (cs y) (L y) (rf y) (kt y)) D := fun s h w => by
  have w0 := w.kill hiw
  have := xe_val p w0
  have hl : s.length = ds.length := w.len
  rw [ap_seq]
  have e0 : mLams cl iw ik mk ms mr s h = (mk (s.set iw none) h).toS (s.set iw none) fun a h1 => match a with
    | .int n => if n < 0 then .stk else match ms[n.toNat]? with
      | some m => (match m ((s.set iw none).set ik (some (.int n))) h1 with
        | .exc c _ h2 => (match cl.lookup c with
          | some bs => (mr ((s.set iw none).set ik (some (.int n))) h2).toS ((s.set iw none).set ik (some (.int n))) fun b h3 => (match gEq true (.lst (bs.map .bl)) b h3 with
            | some (.bl true) => .rt (.bl false) h3
            | some (.bl false) => .nx ((s.set iw none).set ik (some (.int n))) h3
            | _ => .stk)
          | none => .stk)
        | _ => .stk)
      | none => .stk
    | _ => .stk := if_pos ⟨by omega, by omega⟩
  rw [e0]
  cases te with
  | stk => trivial
  | exc c m =>
    obtain ⟨h', e1, w2⟩ := this
    rw [e1]
    exact ⟨_, h', rfl, w2⟩
  | ok y =>
    obtain ⟨kk, h1, e1, w1⟩ := this
    rw [e1, er_bindC_ok]
    have wk := w1.setVal (i := ik) (by rw [hdy]; exact hik) (.int (n y))
    show PostC F D (lamsC cl (n y) (cs y) (L y) (rf y) (kt y)) ((if n y < 0 then Ss.stk else _ : Ss).then rest)
    unfold lamsC
    by_cases n0 : n y < 0
    · rw [if_pos n0, if_pos n0]; trivial
    · rw [if_neg n0, if_neg n0]
      cases ec : (cs y)[(n y).toNat]? with
      | none => trivial
      | some oc =>
        cases oc with
        | none => trivial
        | some c =>
          obtain ⟨m, em, hm⟩ := (lx y kk).get _ _ ec
          obtain ⟨h2, e2, w2⟩ := hm _ _ wk
          simp only [em, e2]
          cases el : cl.lookup c with
          | none => trivial
          | some bs =>
            simp only
            rw [pr y kk _ _ w2]
            show PostC F D (if bs = L y then kt y else .rt (rf y)) (Ss.then (match gEq true (.lst (bs.map .bl)) (.lst ((L y).map AV.bl)) h2 with
              | some (.bl true) => .rt (.bl false) h2
              | some (.bl false) => .nx _ h2
              | _ => .stk) rest)
            have eg : gEq true (.lst (bs.map .bl)) (.lst ((L y).map AV.bl)) h2 = some (.bl (!decide (bs = L y))) := @op_ne _ (TL TB) _ bs (L y) (by decide) h2
            rw [eg]
            by_cases z : bs = L y
            · rw [if_pos z, show decide (bs = L y) = true from decide_eq_true z]
              exact q y kk _ _ w2
            · rw [if_neg z, show decide (bs = L y) = false from decide_eq_false z]
              exact hr y kk _ _ w2
/-- only what is raised counts -/
def ER.exO {M Y : Type} (t : ER M Y) : ER Unit Unit := match t with
  | .exc c _ => .exc c ()
  | _ => .stk
@[simp] theorem exO_exc {M Y : Type} (c : Str) (m : M) : (ER.exc c m : ER M Y).exO = .exc c () := rfl
theorem xe_methNO {M2 Z : Type} {c mn : Str} {f : Fn} {o : ME} {ma : MA} {te : ER Unit Y} {dy : Y → List SD} {fs : Y → List (Str × FV)} {as : Y → List Ar} {ad : Y → List SD} {tb : Y → ER M2 Z} {res : Y → Z → SD} {dya : Y → Z → List SD} {dma : Y → M2 → List SD} {K : Y → Prop} {dd : List SD} (p : XE F ds o te dy (fun y => .own (.ins c (fs y))) (fun _ => dd) K) (en : ∀ y, (fs y).lookup mn = none)
    (pa : ∀ y, PAr F (dy y) ma (as y)) (g : ∀ y, Gv (dy y) (as y) (dy y) (ad y)) (fo : ∀ y, FOk f (.own (.ins c (fs y)) :: ad y) (tb y) (res y) (dya y) (dma y)) (u : ∀ y, Sub (dy y) dd) : XE F ds (mMeth c mn f o ma) (te.bind fun y => (tb y).exO) (fun _ => ds) (fun _ => .val .non) (fun _ => dd) yes := fun s h w => by
  have := p s h w
  cases te with
  | stk => trivial
  | exc cc m =>
    obtain ⟨h', e1, w2⟩ := this
    exact ⟨h', by rw [ap_meth, e1]; rfl, w2⟩
  | ok y =>
    obtain ⟨_, v, h1, e1, hl, w2⟩ := this
    rw [er_bind_ok]
    have hi : (dy y ++ [SD.own (.ins c (fs y))])[(dy y).length]? = some (.own (.ins c (fs y))) := by simp
    obtain ⟨b, avs, e2, e3, el⟩ := own_ins hi (.inl rfl) (en y) w2
    have ev : v = .ref b := by
      rw [← hl] at e2
      simpa using e2
    subst ev
    have wb := w2.back1 hl
    obtain ⟨vs, ea, a⟩ := pa y s h1 wb
    have e0 : mMeth c mn f o ma s h = f (.ref b :: vs) h1 := by
      rw [ap_meth, e1, bind_ok]
      simp only [e3, el, Option.isNone_none, if_true]
      rw [ea, bind_ok]
    have w3 := (g y).go hl w2 a
    rw [List.singleton_append, List.singleton_append] at w3
    obtain ⟨F1, wa, back⟩ := EnvP.frame (by omega) w3
    have := fo y F1 (.ref b :: vs) _ wa
    rw [e0]
    cases k : tb y with
    | stk => trivial
    | ok z => trivial
    | exc c2 m =>
      rw [k] at this
      obtain ⟨h', e, _, w4⟩ := this
      have w5 := back _ _ _ w4
      exact ⟨h', e, ((w5.front hl).sub (u y))⟩
end
end
end S9
end
section
set_option Elab.async false
set_option linter.all false
set_option maxRecDepth 100000
set_option maxHeartbeats 0
namespace K22
open PySem PySem.Spec PyProof.Rows L2 S3
/-! ### the text by places -/
def top (i : Nat) : Stmt := PySem.Challenge.pw_snowhall_k22_refusals_apart.main.body.getD i (.Pass ⟨0, 0, 0, 0⟩)
abbrev s__wall : Stmt := top 0
abbrev s_Row_init : Stmt := inClass (top 15) 0
abbrev s_Book_state : Stmt := inClass (top 17) 1
abbrev s_Book_add : Stmt := inClass (top 17) 2
abbrev s_Row_said : Stmt := inClass (top 15) 1
abbrev s_read_row : Stmt := top 16
abbrev s_Book_init : Stmt := inClass (top 17) 0
abbrev s_Desk_init : Stmt := inClass (top 19) 0
abbrev s_Wall_init : Stmt := inClass (top 21) 0
abbrev s_Eave_init : Stmt := inClass (top 23) 0
abbrev s_Sledge_init : Stmt := inClass (top 27) 0
abbrev s_ice_bears : Stmt := top 12
abbrev s_Row_key : Stmt := inClass (top 15) 2
abbrev s_Book_said : Stmt := inClass (top 17) 3
abbrev s_Book_with_row : Stmt := inClass (top 17) 4
abbrev s_Book_without_last : Stmt := inClass (top 17) 5
abbrev s_Book_told_kinds : Stmt := inClass (top 17) 6
abbrev s_Book_strewn_in_all : Stmt := inClass (top 17) 7
abbrev s_Book_first_day : Stmt := inClass (top 17) 8
abbrev s_Desk_note : Stmt := inClass (top 19) 1
abbrev s_Desk_tell : Stmt := inClass (top 19) 2
abbrev s_Desk_strike : Stmt := inClass (top 19) 3
abbrev s_Desk_judged : Stmt := inClass (top 19) 4
abbrev s_Desk_undo : Stmt := inClass (top 19) 5
abbrev s_Desk_redo : Stmt := inClass (top 19) 6
abbrev s_Wall_held : Stmt := inClass (top 21) 2
abbrev s_Wall_lay : Stmt := inClass (top 21) 1
abbrev s_Wall_knock : Stmt := inClass (top 21) 3
abbrev s_Wall_blocks : Stmt := inClass (top 21) 4
abbrev s_Wall_high_at : Stmt := inClass (top 21) 5
abbrev s_Wall_loopholes : Stmt := inClass (top 21) 6
abbrev s_Wall_joints : Stmt := inClass (top 21) 7
abbrev s_Wall_shown : Stmt := inClass (top 21) 8
abbrev s_Eave_drip : Stmt := inClass (top 23) 1
abbrev s_Eave_knock : Stmt := inClass (top 23) 2
abbrev s_Eave_thaw : Stmt := inClass (top 23) 3
abbrev s_Eave_longest : Stmt := inClass (top 23) 4
abbrev s_Eave_safe : Stmt := inClass (top 23) 5
abbrev s_Eave_shown : Stmt := inClass (top 23) 6
abbrev s_drag_of : Stmt := top 26
abbrev s_Sledge_weight : Stmt := inClass (top 27) 3
abbrev s_Sledge_put : Stmt := inClass (top 27) 1
abbrev s_Sledge_take : Stmt := inClass (top 27) 2
abbrev s_Sledge_pull : Stmt := inClass (top 27) 4
abbrev s_Sledge_run : Stmt := inClass (top 27) 5
abbrev s_Sledge_shoe : Stmt := inClass (top 27) 6
abbrev s_Sledge_shown : Stmt := inClass (top 27) 7
abbrev s_wax_for : Stmt := top 30
abbrev s__law_dice : Stmt := top 32
abbrev s__law_roll : Stmt := top 33
abbrev s__law_rounds : Stmt := top 34
abbrev s__law_under : Stmt := top 35
abbrev s_law : Stmt := top 36
abbrev s_BadText_init : Stmt := inClass (top 9) 0
def c_DEEDS : AV := .rdt [.str "bought", .str "carried", .str "strewn", .str "lent"]
def c_GROUNDS : AV := .rdt [.rdt [.str "ice", .int 1], .rdt [.str "firm", .int 2], .rdt [.str "fresh", .int 4], .rdt [.str "bare", .int 9]]
def c_WAXES : AV := .rdt [.rdt [.str "klister", .int 1], .rdt [.str "red", .int (-1)], .rdt [.str "violet", .int (-4)], .rdt [.str "blue", .int (-10)], .rdt [.str "green", .int (-18)], .rdt [.str "polar", .int (-40)]]
def conC : List (Str × AV) := [("DEEDS", c_DEEDS), ("GROUNDS", c_GROUNDS), ("WAXES", c_WAXES)]
/-! ### what the head tells -/
def d__wall : He.DefD := ⟨("_wall", none), "_wall", "_wall", defArgs s__wall, defBody s__wall, defScope s__wall, [], []⟩
def d_Row_init : He.DefD := ⟨("Row", some "__init__"), "__init__", "Row.__init__", defArgs s_Row_init, defBody s_Row_init, defScope s_Row_init, [], []⟩
def d_Book_state : He.DefD := ⟨("Book", some "state"), "state", "Book.state", defArgs s_Book_state, defBody s_Book_state, defScope s_Book_state, [], []⟩
def d_Book_add : He.DefD := ⟨("Book", some "add"), "add", "Book.add", defArgs s_Book_add, defBody s_Book_add, defScope s_Book_add, [], []⟩
def d_Row_said : He.DefD := ⟨("Row", some "said"), "said", "Row.said", defArgs s_Row_said, defBody s_Row_said, defScope s_Row_said, [], []⟩
def d_read_row : He.DefD := ⟨("read_row", none), "read_row", "read_row", defArgs s_read_row, defBody s_read_row, defScope s_read_row, [], []⟩
def d_Book_init : He.DefD := ⟨("Book", some "__init__"), "__init__", "Book.__init__", defArgs s_Book_init, defBody s_Book_init, defScope s_Book_init, [], []⟩
def d_Desk_init : He.DefD := ⟨("Desk", some "__init__"), "__init__", "Desk.__init__", defArgs s_Desk_init, defBody s_Desk_init, defScope s_Desk_init, [], []⟩
def d_Wall_init : He.DefD := ⟨("Wall", some "__init__"), "__init__", "Wall.__init__", defArgs s_Wall_init, defBody s_Wall_init, defScope s_Wall_init, [], []⟩
def d_Eave_init : He.DefD := ⟨("Eave", some "__init__"), "__init__", "Eave.__init__", defArgs s_Eave_init, defBody s_Eave_init, defScope s_Eave_init, [], []⟩
def d_Sledge_init : He.DefD := ⟨("Sledge", some "__init__"), "__init__", "Sledge.__init__", defArgs s_Sledge_init, defBody s_Sledge_init, defScope s_Sledge_init, [], []⟩
def d_ice_bears : He.DefD := ⟨("ice_bears", none), "ice_bears", "ice_bears", defArgs s_ice_bears, defBody s_ice_bears, defScope s_ice_bears, [], []⟩
def d_Row_key : He.DefD := ⟨("Row", some "key"), "key", "Row.key", defArgs s_Row_key, defBody s_Row_key, defScope s_Row_key, [], []⟩
def d_Book_said : He.DefD := ⟨("Book", some "said"), "said", "Book.said", defArgs s_Book_said, defBody s_Book_said, defScope s_Book_said, [], []⟩
def d_Book_with_row : He.DefD := ⟨("Book", some "with_row"), "with_row", "Book.with_row", defArgs s_Book_with_row, defBody s_Book_with_row, defScope s_Book_with_row, [], []⟩
def d_Book_without_last : He.DefD := ⟨("Book", some "without_last"), "without_last", "Book.without_last", defArgs s_Book_without_last, defBody s_Book_without_last, defScope s_Book_without_last, [], []⟩
def d_Book_told_kinds : He.DefD := ⟨("Book", some "told_kinds"), "told_kinds", "Book.told_kinds", defArgs s_Book_told_kinds, defBody s_Book_told_kinds, defScope s_Book_told_kinds, [], []⟩
def d_Book_strewn_in_all : He.DefD := ⟨("Book", some "strewn_in_all"), "strewn_in_all", "Book.strewn_in_all", defArgs s_Book_strewn_in_all, defBody s_Book_strewn_in_all, defScope s_Book_strewn_in_all, [], []⟩
def d_Book_first_day : He.DefD := ⟨("Book", some "first_day"), "first_day", "Book.first_day", defArgs s_Book_first_day, defBody s_Book_first_day, defScope s_Book_first_day, [], []⟩
def d_Desk_note : He.DefD := ⟨("Desk", some "note"), "note", "Desk.note", defArgs s_Desk_note, defBody s_Desk_note, defScope s_Desk_note, [], []⟩
def d_Desk_tell : He.DefD := ⟨("Desk", some "tell"), "tell", "Desk.tell", defArgs s_Desk_tell, defBody s_Desk_tell, defScope s_Desk_tell, [], []⟩
def d_Desk_strike : He.DefD := ⟨("Desk", some "strike"), "strike", "Desk.strike", defArgs s_Desk_strike, defBody s_Desk_strike, defScope s_Desk_strike, [], []⟩
def d_Desk_judged : He.DefD := ⟨("Desk", some "judged"), "judged", "Desk.judged", defArgs s_Desk_judged, defBody s_Desk_judged, defScope s_Desk_judged, [], []⟩
def d_Desk_undo : He.DefD := ⟨("Desk", some "undo"), "undo", "Desk.undo", defArgs s_Desk_undo, defBody s_Desk_undo, defScope s_Desk_undo, [], []⟩
def d_Desk_redo : He.DefD := ⟨("Desk", some "redo"), "redo", "Desk.redo", defArgs s_Desk_redo, defBody s_Desk_redo, defScope s_Desk_redo, [], []⟩
def d_Wall_held : He.DefD := ⟨("Wall", some "held"), "held", "Wall.held", defArgs s_Wall_held, defBody s_Wall_held, defScope s_Wall_held, [], []⟩
def d_Wall_lay : He.DefD := ⟨("Wall", some "lay"), "lay", "Wall.lay", defArgs s_Wall_lay, defBody s_Wall_lay, defScope s_Wall_lay, [], []⟩
def d_Wall_knock : He.DefD := ⟨("Wall", some "knock"), "knock", "Wall.knock", defArgs s_Wall_knock, defBody s_Wall_knock, defScope s_Wall_knock, [], []⟩
def d_Wall_blocks : He.DefD := ⟨("Wall", some "blocks"), "blocks", "Wall.blocks", defArgs s_Wall_blocks, defBody s_Wall_blocks, defScope s_Wall_blocks, [], []⟩
def d_Wall_high_at : He.DefD := ⟨("Wall", some "high_at"), "high_at", "Wall.high_at", defArgs s_Wall_high_at, defBody s_Wall_high_at, defScope s_Wall_high_at, [], []⟩
def d_Wall_loopholes : He.DefD := ⟨("Wall", some "loopholes"), "loopholes", "Wall.loopholes", defArgs s_Wall_loopholes, defBody s_Wall_loopholes, defScope s_Wall_loopholes, [], []⟩
def d_Wall_joints : He.DefD := ⟨("Wall", some "joints"), "joints", "Wall.joints", defArgs s_Wall_joints, defBody s_Wall_joints, defScope s_Wall_joints, [], []⟩
def d_Wall_shown : He.DefD := ⟨("Wall", some "shown"), "shown", "Wall.shown", defArgs s_Wall_shown, defBody s_Wall_shown, defScope s_Wall_shown, [], []⟩
def d_Eave_drip : He.DefD := ⟨("Eave", some "drip"), "drip", "Eave.drip", defArgs s_Eave_drip, defBody s_Eave_drip, defScope s_Eave_drip, [], []⟩
def d_Eave_knock : He.DefD := ⟨("Eave", some "knock"), "knock", "Eave.knock", defArgs s_Eave_knock, defBody s_Eave_knock, defScope s_Eave_knock, [], []⟩
def d_Eave_thaw : He.DefD := ⟨("Eave", some "thaw"), "thaw", "Eave.thaw", defArgs s_Eave_thaw, defBody s_Eave_thaw, defScope s_Eave_thaw, [], []⟩
def d_Eave_longest : He.DefD := ⟨("Eave", some "longest"), "longest", "Eave.longest", defArgs s_Eave_longest, defBody s_Eave_longest, defScope s_Eave_longest, [], []⟩
def d_Eave_safe : He.DefD := ⟨("Eave", some "safe"), "safe", "Eave.safe", defArgs s_Eave_safe, defBody s_Eave_safe, defScope s_Eave_safe, [], []⟩
def d_Eave_shown : He.DefD := ⟨("Eave", some "shown"), "shown", "Eave.shown", defArgs s_Eave_shown, defBody s_Eave_shown, defScope s_Eave_shown, [], []⟩
def d_drag_of : He.DefD := ⟨("drag_of", none), "drag_of", "drag_of", defArgs s_drag_of, defBody s_drag_of, defScope s_drag_of, [], []⟩
def d_Sledge_weight : He.DefD := ⟨("Sledge", some "weight"), "weight", "Sledge.weight", defArgs s_Sledge_weight, defBody s_Sledge_weight, defScope s_Sledge_weight, [], []⟩
def d_Sledge_put : He.DefD := ⟨("Sledge", some "put"), "put", "Sledge.put", defArgs s_Sledge_put, defBody s_Sledge_put, defScope s_Sledge_put, [], []⟩
def d_Sledge_take : He.DefD := ⟨("Sledge", some "take"), "take", "Sledge.take", defArgs s_Sledge_take, defBody s_Sledge_take, defScope s_Sledge_take, [], []⟩
def d_Sledge_pull : He.DefD := ⟨("Sledge", some "pull"), "pull", "Sledge.pull", defArgs s_Sledge_pull, defBody s_Sledge_pull, defScope s_Sledge_pull, [], []⟩
def d_Sledge_run : He.DefD := ⟨("Sledge", some "run"), "run", "Sledge.run", defArgs s_Sledge_run, defBody s_Sledge_run, defScope s_Sledge_run, [], []⟩
def d_Sledge_shoe : He.DefD := ⟨("Sledge", some "shoe"), "shoe", "Sledge.shoe", defArgs s_Sledge_shoe, defBody s_Sledge_shoe, defScope s_Sledge_shoe, [], []⟩
def d_Sledge_shown : He.DefD := ⟨("Sledge", some "shown"), "shown", "Sledge.shown", defArgs s_Sledge_shown, defBody s_Sledge_shown, defScope s_Sledge_shown, [], []⟩
def d_wax_for : He.DefD := ⟨("wax_for", none), "wax_for", "wax_for", defArgs s_wax_for, defBody s_wax_for, defScope s_wax_for, [], []⟩
def d__law_dice : He.DefD := ⟨("_law_dice", none), "_law_dice", "_law_dice", defArgs s__law_dice, defBody s__law_dice, defScope s__law_dice, [], []⟩
def d__law_roll : He.DefD := ⟨("_law_roll", none), "_law_roll", "_law_roll", defArgs s__law_roll, defBody s__law_roll, defScope s__law_roll, [], []⟩
def d__law_rounds : He.DefD := ⟨("_law_rounds", none), "_law_rounds", "_law_rounds", defArgs s__law_rounds, defBody s__law_rounds, defScope s__law_rounds, [], []⟩
def d__law_under : He.DefD := ⟨("_law_under", none), "_law_under", "_law_under", defArgs s__law_under, defBody s__law_under, defScope s__law_under, [], []⟩
def d_law : He.DefD := ⟨("law", none), "law", "law", defArgs s_law, defBody s_law, defScope s_law, [], []⟩
def fnL : List He.DefD := [d__wall, d_Row_init, d_Book_state, d_Book_add, d_Row_said, d_read_row, d_Book_init, d_Desk_init, d_Wall_init, d_Eave_init, d_Sledge_init, d_ice_bears, d_Row_key, d_Book_said, d_Book_with_row, d_Book_without_last, d_Book_told_kinds, d_Book_strewn_in_all, d_Book_first_day, d_Desk_note, d_Desk_tell, d_Desk_strike, d_Desk_judged, d_Desk_undo, d_Desk_redo, d_Wall_held, d_Wall_lay, d_Wall_knock, d_Wall_blocks, d_Wall_high_at, d_Wall_loopholes, d_Wall_joints, d_Wall_shown, d_Eave_drip, d_Eave_knock, d_Eave_thaw, d_Eave_longest, d_Eave_safe, d_Eave_shown, d_drag_of, d_Sledge_weight, d_Sledge_put, d_Sledge_take, d_Sledge_pull, d_Sledge_run, d_Sledge_shoe, d_Sledge_shown, d_wax_for, d__law_dice, d__law_roll, d__law_rounds, d__law_under, d_law]
def fa0 : List He.Fa := [.glo "_wall", .glo "read_row", .glo "ice_bears", .glo "drag_of", .glo "wax_for", .glo "_law_dice", .glo "_law_roll", .glo "_law_rounds", .glo "_law_under", .glo "law", .glo "SnowFault", .glo "BadSize", .glo "BadPlan", .glo "NoSuch", .glo "NoRoom", .glo "NoWay", .glo "Breaks", .glo "BadText", .glo "BadDeed", .glo "Row", .glo "Book", .glo "Desk", .glo "Wall", .glo "Eave", .glo "Sledge", .glo "DEEDS", .glo "GROUNDS", .glo "WAXES", .free "ValueError", .free "abs"]
def fa1 : List He.Fa := [.free "any", .free "enumerate", .free "int", .free "isinstance", .free "len", .free "max", .free "min", .free "range", .free "sorted", .free "str", .free "sum", .free "tuple", .cls "Row", .noat "Row" "day", .noat "Row" "kind", .noat "Row" "deed", .noat "Row" "many", .mkr "Row", .meth "Row" "said", .meth "Row" "key", .cls "Book", .noat "Book" "lines", .mkr "Book", .meth "Book" "state", .meth "Book" "add", .meth "Book" "said", .meth "Book" "with_row", .meth "Book" "without_last", .meth "Book" "told_kinds", .meth "Book" "strewn_in_all"]
def fa2 : List He.Fa := [.meth "Book" "first_day", .cls "Desk", .noat "Desk" "text", .noat "Desk" "deeds", .noat "Desk" "undone", .mkr "Desk", .meth "Desk" "note", .meth "Desk" "tell", .meth "Desk" "strike", .meth "Desk" "judged", .meth "Desk" "undo", .meth "Desk" "redo", .cls "Wall", .noat "Wall" "wide", .noat "Wall" "courses", .mkr "Wall", .meth "Wall" "lay", .meth "Wall" "held", .meth "Wall" "knock", .meth "Wall" "blocks", .meth "Wall" "high_at", .meth "Wall" "loopholes", .meth "Wall" "joints", .meth "Wall" "shown", .cls "Eave", .noat "Eave" "long", .noat "Eave" "icicles", .mkr "Eave", .meth "Eave" "drip", .meth "Eave" "knock"]
def fa3 : List He.Fa := [.meth "Eave" "thaw", .meth "Eave" "longest", .meth "Eave" "safe", .meth "Eave" "shown", .cls "Sledge", .noat "Sledge" "bears", .noat "Sledge" "load", .noat "Sledge" "runner", .mkr "Sledge", .meth "Sledge" "put", .meth "Sledge" "take", .meth "Sledge" "weight", .meth "Sledge" "pull", .meth "Sledge" "run", .meth "Sledge" "shoe", .meth "Sledge" "shown", .exc "BadDeed", .exc "BadPlan", .exc "BadSize", .exc "Breaks", .exc "NoRoom", .exc "NoSuch", .exc "NoWay"]
def faL : List He.Fa := fa0 ++ fa1 ++ fa2 ++ fa3
def tfL : List He.Defn := [("read_row", none), ("Wall", some "held"), ("Wall", some "lay"), ("Wall", some "blocks"), ("law", none)]
def cl_told : List (Str × Str) := []
def clU : List (Str × List Bool) := [("BadDeed", [true, false, false, false, false, false, false, false, true]), ("BadPlan", [false, true, false, false, false, false, false, false, true]), ("BadSize", [false, false, true, false, false, false, false, false, true]), ("BadText", [false, false, false, true, false, false, false, false, true]), ("Breaks", [false, false, false, false, true, false, false, false, true]), ("NoRoom", [false, false, false, false, false, true, false, false, true]), ("NoSuch", [false, false, false, false, false, false, true, false, true]), ("NoWay", [false, false, false, false, false, false, false, true, true])]
def csL (K : PySem.W.Frag) : List Value := [.ref (He.ga K "BadDeed"), .ref (He.ga K "BadPlan"), .ref (He.ga K "BadSize"), .ref (He.ga K "BadText"), .ref (He.ga K "Breaks"), .ref (He.ga K "NoRoom"), .ref (He.ga K "NoSuch"), .ref (He.ga K "NoWay"), .type "ValueError"]
def exL (K : PySem.W.Frag) : Bool := decide (((tfL.map fun p => (He.cT K p).2)).Nodup) && (((cl_told.map (·.1)).all fun c => (cl_told.map (·.1)).all fun e => decide (PySem.W.exmOne K (.ref (He.ga K c)) (.ref (He.ga K e)) = some (decide (c = e)))) && conC.all fun p => chkV K p.2 (.ref (He.ga K p.1))) && (iniB K (He.ga K "BadText") (He.fAd K ("BadText", some "__init__")) "BadText.__init__" "row" PySem.Challenge.pw_snowhall_k22_refusals_apart.main.file && L2.xfB K (He.ga K "BadText")) && unB K (He.ga K) clU (He.ga K "SnowFault") (csL K)
def ssL : List He.SupD := [⟨("BadText", some "__init__"), "__init__", "BadText.__init__", defArgs s_BadText_init, defBody s_BadText_init, defScope s_BadText_init⟩]
abbrev R : PySem.W.OpenRow := PySem.W.OpenLaw.row PySem.Challenge.rw_snowhall_k22_refusals_apart
abbrev hk : PySem.W.Hook := He.hookI 6 faL fnL [] tfL exL ssL
def ob (s : PySem.W.SharedT) : He.AlI := He.obsI 6 faL fnL [] tfL exL ssL (HandSHeadRun.getT s)
theorem ob_eq (s : PySem.W.SharedT) : ob s = hk.obs s.abs := He.obsI_eq (HandSHeadRun.getT_eq s)
def looseL : List PySem.Str := (["_wall", "read_row", "ice_bears", "drag_of", "wax_for", "_law_dice", "_law_roll", "_law_rounds", "_law_under", "SnowFault", "BadSize", "BadPlan", "NoSuch", "NoRoom", "NoWay", "Breaks", "BadText", "BadDeed", "Row", "Book", "Desk", "Wall", "Eave", "Sledge", "DEEDS", "GROUNDS", "WAXES"] : List PySem.Str)
theorem run (w : World) : HandSHeadRun.RunEq R (PySem.W.view R.prog [36]) hk ob 6000 looseL w := by
  intro os
  kernel_rfl
abbrev PP : Program := PySem.Challenge.rw_snowhall_k22_refusals_apart.prog
theorem pp_file : ((PP.main.file : Str) == PySem.Challenge.pw_snowhall_k22_refusals_apart.main.file) = true := by first | kernel_rfl | decide +kernel
theorem pp_top : (PP.main.scope.names.lookup ("super" : Str)).isSome = false := by first | kernel_rfl | decide +kernel
structure TX (B : Bx) (base : Heap) where
  a__wall : Addr
  fd__wall : FuncData
  c__wall : Addr
  fu__wall : FunC B.K "_wall" "_wall" s__wall a__wall fd__wall c__wall
  bi__wall : L2.Binds B.K fd__wall ["k"] []
  mg__wall : B.mg "_wall" = some (.ref a__wall)
  a_Row_init : Addr
  fd_Row_init : FuncData
  c_Row_init : Addr
  fu_Row_init : FunC B.K "__init__" "Row.__init__" s_Row_init a_Row_init fd_Row_init c_Row_init
  bi_Row_init : L2.Binds B.K fd_Row_init ["self", "day", "kind", "deed", "many"] []
  a_Book_state : Addr
  fd_Book_state : FuncData
  c_Book_state : Addr
  fu_Book_state : FunC B.K "state" "Book.state" s_Book_state a_Book_state fd_Book_state c_Book_state
  bi_Book_state : L2.Binds B.K fd_Book_state ["self", "kind"] []
  a_Book_add : Addr
  fd_Book_add : FuncData
  c_Book_add : Addr
  fu_Book_add : FunC B.K "add" "Book.add" s_Book_add a_Book_add fd_Book_add c_Book_add
  bi_Book_add : L2.Binds B.K fd_Book_add ["self", "line"] []
  a_Row_said : Addr
  fd_Row_said : FuncData
  c_Row_said : Addr
  fu_Row_said : FunC B.K "said" "Row.said" s_Row_said a_Row_said fd_Row_said c_Row_said
  bi_Row_said : L2.Binds B.K fd_Row_said ["self"] []
  a_read_row : Addr
  fd_read_row : FuncData
  c_read_row : Addr
  fu_read_row : FunC B.K "read_row" "read_row" s_read_row a_read_row fd_read_row c_read_row
  bi_read_row : L2.Binds B.K fd_read_row ["text"] []
  mg_read_row : B.mg "read_row" = some (.ref a_read_row)
  a_Book_init : Addr
  fd_Book_init : FuncData
  c_Book_init : Addr
  fu_Book_init : FunC B.K "__init__" "Book.__init__" s_Book_init a_Book_init fd_Book_init c_Book_init
  bi_Book_init : L2.Binds B.K fd_Book_init ["self", "text"] []
  a_Desk_init : Addr
  fd_Desk_init : FuncData
  c_Desk_init : Addr
  fu_Desk_init : FunC B.K "__init__" "Desk.__init__" s_Desk_init a_Desk_init fd_Desk_init c_Desk_init
  bi_Desk_init : L2.Binds B.K fd_Desk_init ["self"] []
  a_Wall_init : Addr
  fd_Wall_init : FuncData
  c_Wall_init : Addr
  fu_Wall_init : FunC B.K "__init__" "Wall.__init__" s_Wall_init a_Wall_init fd_Wall_init c_Wall_init
  bi_Wall_init : L2.Binds B.K fd_Wall_init ["self", "wide"] []
  a_Eave_init : Addr
  fd_Eave_init : FuncData
  c_Eave_init : Addr
  fu_Eave_init : FunC B.K "__init__" "Eave.__init__" s_Eave_init a_Eave_init fd_Eave_init c_Eave_init
  bi_Eave_init : L2.Binds B.K fd_Eave_init ["self", "long"] []
  a_Sledge_init : Addr
  fd_Sledge_init : FuncData
  c_Sledge_init : Addr
  fu_Sledge_init : FunC B.K "__init__" "Sledge.__init__" s_Sledge_init a_Sledge_init fd_Sledge_init c_Sledge_init
  bi_Sledge_init : L2.Binds B.K fd_Sledge_init ["self", "bears"] []
  a_ice_bears : Addr
  fd_ice_bears : FuncData
  c_ice_bears : Addr
  fu_ice_bears : FunC B.K "ice_bears" "ice_bears" s_ice_bears a_ice_bears fd_ice_bears c_ice_bears
  bi_ice_bears : L2.Binds B.K fd_ice_bears ["thick"] []
  mg_ice_bears : B.mg "ice_bears" = some (.ref a_ice_bears)
  a_Row_key : Addr
  fd_Row_key : FuncData
  c_Row_key : Addr
  fu_Row_key : FunC B.K "key" "Row.key" s_Row_key a_Row_key fd_Row_key c_Row_key
  bi_Row_key : L2.Binds B.K fd_Row_key ["self"] []
  a_Book_said : Addr
  fd_Book_said : FuncData
  c_Book_said : Addr
  fu_Book_said : FunC B.K "said" "Book.said" s_Book_said a_Book_said fd_Book_said c_Book_said
  bi_Book_said : L2.Binds B.K fd_Book_said ["self"] []
  a_Book_with_row : Addr
  fd_Book_with_row : FuncData
  c_Book_with_row : Addr
  fu_Book_with_row : FunC B.K "with_row" "Book.with_row" s_Book_with_row a_Book_with_row fd_Book_with_row c_Book_with_row
  bi_Book_with_row : L2.Binds B.K fd_Book_with_row ["self", "text"] []
  a_Book_without_last : Addr
  fd_Book_without_last : FuncData
  c_Book_without_last : Addr
  fu_Book_without_last : FunC B.K "without_last" "Book.without_last" s_Book_without_last a_Book_without_last fd_Book_without_last c_Book_without_last
  bi_Book_without_last : L2.Binds B.K fd_Book_without_last ["self"] []
  a_Book_told_kinds : Addr
  fd_Book_told_kinds : FuncData
  c_Book_told_kinds : Addr
  fu_Book_told_kinds : FunC B.K "told_kinds" "Book.told_kinds" s_Book_told_kinds a_Book_told_kinds fd_Book_told_kinds c_Book_told_kinds
  bi_Book_told_kinds : L2.Binds B.K fd_Book_told_kinds ["self"] []
  a_Book_strewn_in_all : Addr
  fd_Book_strewn_in_all : FuncData
  c_Book_strewn_in_all : Addr
  fu_Book_strewn_in_all : FunC B.K "strewn_in_all" "Book.strewn_in_all" s_Book_strewn_in_all a_Book_strewn_in_all fd_Book_strewn_in_all c_Book_strewn_in_all
  bi_Book_strewn_in_all : L2.Binds B.K fd_Book_strewn_in_all ["self"] []
  a_Book_first_day : Addr
  fd_Book_first_day : FuncData
  c_Book_first_day : Addr
  fu_Book_first_day : FunC B.K "first_day" "Book.first_day" s_Book_first_day a_Book_first_day fd_Book_first_day c_Book_first_day
  bi_Book_first_day : L2.Binds B.K fd_Book_first_day ["self", "kind"] []
  a_Desk_note : Addr
  fd_Desk_note : FuncData
  c_Desk_note : Addr
  fu_Desk_note : FunC B.K "note" "Desk.note" s_Desk_note a_Desk_note fd_Desk_note c_Desk_note
  bi_Desk_note : L2.Binds B.K fd_Desk_note ["self", "text"] []
  a_Desk_tell : Addr
  fd_Desk_tell : FuncData
  c_Desk_tell : Addr
  fu_Desk_tell : FunC B.K "tell" "Desk.tell" s_Desk_tell a_Desk_tell fd_Desk_tell c_Desk_tell
  bi_Desk_tell : L2.Binds B.K fd_Desk_tell ["self", "row"] []
  a_Desk_strike : Addr
  fd_Desk_strike : FuncData
  c_Desk_strike : Addr
  fu_Desk_strike : FunC B.K "strike" "Desk.strike" s_Desk_strike a_Desk_strike fd_Desk_strike c_Desk_strike
  bi_Desk_strike : L2.Binds B.K fd_Desk_strike ["self"] []
  a_Desk_judged : Addr
  fd_Desk_judged : FuncData
  c_Desk_judged : Addr
  fu_Desk_judged : FunC B.K "judged" "Desk.judged" s_Desk_judged a_Desk_judged fd_Desk_judged c_Desk_judged
  bi_Desk_judged : L2.Binds B.K fd_Desk_judged ["self"] []
  a_Desk_undo : Addr
  fd_Desk_undo : FuncData
  c_Desk_undo : Addr
  fu_Desk_undo : FunC B.K "undo" "Desk.undo" s_Desk_undo a_Desk_undo fd_Desk_undo c_Desk_undo
  bi_Desk_undo : L2.Binds B.K fd_Desk_undo ["self"] []
  a_Desk_redo : Addr
  fd_Desk_redo : FuncData
  c_Desk_redo : Addr
  fu_Desk_redo : FunC B.K "redo" "Desk.redo" s_Desk_redo a_Desk_redo fd_Desk_redo c_Desk_redo
  bi_Desk_redo : L2.Binds B.K fd_Desk_redo ["self"] []
  a_Wall_held : Addr
  fd_Wall_held : FuncData
  c_Wall_held : Addr
  fu_Wall_held : FunC B.K "held" "Wall.held" s_Wall_held a_Wall_held fd_Wall_held c_Wall_held
  bi_Wall_held : L2.Binds B.K fd_Wall_held ["self", "course", "place", "long"] []
  a_Wall_lay : Addr
  fd_Wall_lay : FuncData
  c_Wall_lay : Addr
  fu_Wall_lay : FunC B.K "lay" "Wall.lay" s_Wall_lay a_Wall_lay fd_Wall_lay c_Wall_lay
  bi_Wall_lay : L2.Binds B.K fd_Wall_lay ["self", "course", "place", "long"] []
  a_Wall_knock : Addr
  fd_Wall_knock : FuncData
  c_Wall_knock : Addr
  fu_Wall_knock : FunC B.K "knock" "Wall.knock" s_Wall_knock a_Wall_knock fd_Wall_knock c_Wall_knock
  bi_Wall_knock : L2.Binds B.K fd_Wall_knock ["self", "course", "place"] []
  a_Wall_blocks : Addr
  fd_Wall_blocks : FuncData
  c_Wall_blocks : Addr
  fu_Wall_blocks : FunC B.K "blocks" "Wall.blocks" s_Wall_blocks a_Wall_blocks fd_Wall_blocks c_Wall_blocks
  bi_Wall_blocks : L2.Binds B.K fd_Wall_blocks ["self"] []
  a_Wall_high_at : Addr
  fd_Wall_high_at : FuncData
  c_Wall_high_at : Addr
  fu_Wall_high_at : FunC B.K "high_at" "Wall.high_at" s_Wall_high_at a_Wall_high_at fd_Wall_high_at c_Wall_high_at
  bi_Wall_high_at : L2.Binds B.K fd_Wall_high_at ["self", "place"] []
  a_Wall_loopholes : Addr
  fd_Wall_loopholes : FuncData
  c_Wall_loopholes : Addr
  fu_Wall_loopholes : FunC B.K "loopholes" "Wall.loopholes" s_Wall_loopholes a_Wall_loopholes fd_Wall_loopholes c_Wall_loopholes
  bi_Wall_loopholes : L2.Binds B.K fd_Wall_loopholes ["self", "course"] []
  a_Wall_joints : Addr
  fd_Wall_joints : FuncData
  c_Wall_joints : Addr
  fu_Wall_joints : FunC B.K "joints" "Wall.joints" s_Wall_joints a_Wall_joints fd_Wall_joints c_Wall_joints
  bi_Wall_joints : L2.Binds B.K fd_Wall_joints ["self"] []
  a_Wall_shown : Addr
  fd_Wall_shown : FuncData
  c_Wall_shown : Addr
  fu_Wall_shown : FunC B.K "shown" "Wall.shown" s_Wall_shown a_Wall_shown fd_Wall_shown c_Wall_shown
  bi_Wall_shown : L2.Binds B.K fd_Wall_shown ["self"] []
  a_Eave_drip : Addr
  fd_Eave_drip : FuncData
  c_Eave_drip : Addr
  fu_Eave_drip : FunC B.K "drip" "Eave.drip" s_Eave_drip a_Eave_drip fd_Eave_drip c_Eave_drip
  bi_Eave_drip : L2.Binds B.K fd_Eave_drip ["self", "place", "much"] []
  a_Eave_knock : Addr
  fd_Eave_knock : FuncData
  c_Eave_knock : Addr
  fu_Eave_knock : FunC B.K "knock" "Eave.knock" s_Eave_knock a_Eave_knock fd_Eave_knock c_Eave_knock
  bi_Eave_knock : L2.Binds B.K fd_Eave_knock ["self", "place"] []
  a_Eave_thaw : Addr
  fd_Eave_thaw : FuncData
  c_Eave_thaw : Addr
  fu_Eave_thaw : FunC B.K "thaw" "Eave.thaw" s_Eave_thaw a_Eave_thaw fd_Eave_thaw c_Eave_thaw
  bi_Eave_thaw : L2.Binds B.K fd_Eave_thaw ["self", "degrees"] []
  a_Eave_longest : Addr
  fd_Eave_longest : FuncData
  c_Eave_longest : Addr
  fu_Eave_longest : FunC B.K "longest" "Eave.longest" s_Eave_longest a_Eave_longest fd_Eave_longest c_Eave_longest
  bi_Eave_longest : L2.Binds B.K fd_Eave_longest ["self"] []
  a_Eave_safe : Addr
  fd_Eave_safe : FuncData
  c_Eave_safe : Addr
  fu_Eave_safe : FunC B.K "safe" "Eave.safe" s_Eave_safe a_Eave_safe fd_Eave_safe c_Eave_safe
  bi_Eave_safe : L2.Binds B.K fd_Eave_safe ["self", "most"] []
  a_Eave_shown : Addr
  fd_Eave_shown : FuncData
  c_Eave_shown : Addr
  fu_Eave_shown : FunC B.K "shown" "Eave.shown" s_Eave_shown a_Eave_shown fd_Eave_shown c_Eave_shown
  bi_Eave_shown : L2.Binds B.K fd_Eave_shown ["self"] []
  a_drag_of : Addr
  fd_drag_of : FuncData
  c_drag_of : Addr
  fu_drag_of : FunC B.K "drag_of" "drag_of" s_drag_of a_drag_of fd_drag_of c_drag_of
  bi_drag_of : L2.Binds B.K fd_drag_of ["name"] []
  mg_drag_of : B.mg "drag_of" = some (.ref a_drag_of)
  a_Sledge_weight : Addr
  fd_Sledge_weight : FuncData
  c_Sledge_weight : Addr
  fu_Sledge_weight : FunC B.K "weight" "Sledge.weight" s_Sledge_weight a_Sledge_weight fd_Sledge_weight c_Sledge_weight
  bi_Sledge_weight : L2.Binds B.K fd_Sledge_weight ["self"] []
  a_Sledge_put : Addr
  fd_Sledge_put : FuncData
  c_Sledge_put : Addr
  fu_Sledge_put : FunC B.K "put" "Sledge.put" s_Sledge_put a_Sledge_put fd_Sledge_put c_Sledge_put
  bi_Sledge_put : L2.Binds B.K fd_Sledge_put ["self", "name", "weight"] []
  a_Sledge_take : Addr
  fd_Sledge_take : FuncData
  c_Sledge_take : Addr
  fu_Sledge_take : FunC B.K "take" "Sledge.take" s_Sledge_take a_Sledge_take fd_Sledge_take c_Sledge_take
  bi_Sledge_take : L2.Binds B.K fd_Sledge_take ["self", "name"] []
  a_Sledge_pull : Addr
  fd_Sledge_pull : FuncData
  c_Sledge_pull : Addr
  fu_Sledge_pull : FunC B.K "pull" "Sledge.pull" s_Sledge_pull a_Sledge_pull fd_Sledge_pull c_Sledge_pull
  bi_Sledge_pull : L2.Binds B.K fd_Sledge_pull ["self", "ground"] []
  a_Sledge_run : Addr
  fd_Sledge_run : FuncData
  c_Sledge_run : Addr
  fu_Sledge_run : FunC B.K "run" "Sledge.run" s_Sledge_run a_Sledge_run fd_Sledge_run c_Sledge_run
  bi_Sledge_run : L2.Binds B.K fd_Sledge_run ["self", "ground", "far"] []
  a_Sledge_shoe : Addr
  fd_Sledge_shoe : FuncData
  c_Sledge_shoe : Addr
  fu_Sledge_shoe : FunC B.K "shoe" "Sledge.shoe" s_Sledge_shoe a_Sledge_shoe fd_Sledge_shoe c_Sledge_shoe
  bi_Sledge_shoe : L2.Binds B.K fd_Sledge_shoe ["self"] []
  a_Sledge_shown : Addr
  fd_Sledge_shown : FuncData
  c_Sledge_shown : Addr
  fu_Sledge_shown : FunC B.K "shown" "Sledge.shown" s_Sledge_shown a_Sledge_shown fd_Sledge_shown c_Sledge_shown
  bi_Sledge_shown : L2.Binds B.K fd_Sledge_shown ["self"] []
  a_wax_for : Addr
  fd_wax_for : FuncData
  c_wax_for : Addr
  fu_wax_for : FunC B.K "wax_for" "wax_for" s_wax_for a_wax_for fd_wax_for c_wax_for
  bi_wax_for : L2.Binds B.K fd_wax_for ["heat"] []
  mg_wax_for : B.mg "wax_for" = some (.ref a_wax_for)
  a__law_dice : Addr
  fd__law_dice : FuncData
  c__law_dice : Addr
  fu__law_dice : FunC B.K "_law_dice" "_law_dice" s__law_dice a__law_dice fd__law_dice c__law_dice
  bi__law_dice : L2.Binds B.K fd__law_dice ["cell"] []
  mg__law_dice : B.mg "_law_dice" = some (.ref a__law_dice)
  a__law_roll : Addr
  fd__law_roll : FuncData
  c__law_roll : Addr
  fu__law_roll : FunC B.K "_law_roll" "_law_roll" s__law_roll a__law_roll fd__law_roll c__law_roll
  bi__law_roll : L2.Binds B.K fd__law_roll ["dice", "many"] []
  mg__law_roll : B.mg "_law_roll" = some (.ref a__law_roll)
  a__law_rounds : Addr
  fd__law_rounds : FuncData
  c__law_rounds : Addr
  fu__law_rounds : FunC B.K "_law_rounds" "_law_rounds" s__law_rounds a__law_rounds fd__law_rounds c__law_rounds
  bi__law_rounds : L2.Binds B.K fd__law_rounds ["script", "most"] []
  mg__law_rounds : B.mg "_law_rounds" = some (.ref a__law_rounds)
  a__law_under : Addr
  fd__law_under : FuncData
  c__law_under : Addr
  fu__law_under : FunC B.K "_law_under" "_law_under" s__law_under a__law_under fd__law_under c__law_under
  bi__law_under : L2.Binds B.K fd__law_under ["what"] []
  mg__law_under : B.mg "_law_under" = some (.ref a__law_under)
  a_law : Addr
  fd_law : FuncData
  c_law : Addr
  fu_law : FunC B.K "law" "law" s_law a_law fd_law c_law
  bi_law : L2.Binds B.K fd_law ["script"] []
  mg_law : B.mg "law" = some (.ref a_law)
  C_SnowFault : Addr
  mgc_SnowFault : B.mg "SnowFault" = some (.ref C_SnowFault)
  C_BadSize : Addr
  mgc_BadSize : B.mg "BadSize" = some (.ref C_BadSize)
  C_BadPlan : Addr
  mgc_BadPlan : B.mg "BadPlan" = some (.ref C_BadPlan)
  C_NoSuch : Addr
  mgc_NoSuch : B.mg "NoSuch" = some (.ref C_NoSuch)
  C_NoRoom : Addr
  mgc_NoRoom : B.mg "NoRoom" = some (.ref C_NoRoom)
  C_NoWay : Addr
  mgc_NoWay : B.mg "NoWay" = some (.ref C_NoWay)
  C_Breaks : Addr
  mgc_Breaks : B.mg "Breaks" = some (.ref C_Breaks)
  C_BadText : Addr
  mgc_BadText : B.mg "BadText" = some (.ref C_BadText)
  C_BadDeed : Addr
  mgc_BadDeed : B.mg "BadDeed" = some (.ref C_BadDeed)
  C_Row : Addr
  mgc_Row : B.mg "Row" = some (.ref C_Row)
  cls_Row : ClsF B "Row" ["day", "kind", "deed", "many"]
  mk_Row : Mk B.K C_Row a_Row_init
  me_Row_said : Meth B.K C_Row "said" a_Row_said
  me_Row_key : Meth B.K C_Row "key" a_Row_key
  C_Book : Addr
  mgc_Book : B.mg "Book" = some (.ref C_Book)
  cls_Book : ClsF B "Book" ["lines"]
  mk_Book : Mk B.K C_Book a_Book_init
  me_Book_state : Meth B.K C_Book "state" a_Book_state
  me_Book_add : Meth B.K C_Book "add" a_Book_add
  me_Book_said : Meth B.K C_Book "said" a_Book_said
  me_Book_with_row : Meth B.K C_Book "with_row" a_Book_with_row
  me_Book_without_last : Meth B.K C_Book "without_last" a_Book_without_last
  me_Book_told_kinds : Meth B.K C_Book "told_kinds" a_Book_told_kinds
  me_Book_strewn_in_all : Meth B.K C_Book "strewn_in_all" a_Book_strewn_in_all
  me_Book_first_day : Meth B.K C_Book "first_day" a_Book_first_day
  C_Desk : Addr
  mgc_Desk : B.mg "Desk" = some (.ref C_Desk)
  cls_Desk : ClsF B "Desk" ["text", "deeds", "undone"]
  mk_Desk : Mk B.K C_Desk a_Desk_init
  me_Desk_note : Meth B.K C_Desk "note" a_Desk_note
  me_Desk_tell : Meth B.K C_Desk "tell" a_Desk_tell
  me_Desk_strike : Meth B.K C_Desk "strike" a_Desk_strike
  me_Desk_judged : Meth B.K C_Desk "judged" a_Desk_judged
  me_Desk_undo : Meth B.K C_Desk "undo" a_Desk_undo
  me_Desk_redo : Meth B.K C_Desk "redo" a_Desk_redo
  C_Wall : Addr
  mgc_Wall : B.mg "Wall" = some (.ref C_Wall)
  cls_Wall : ClsF B "Wall" ["wide", "courses"]
  mk_Wall : Mk B.K C_Wall a_Wall_init
  me_Wall_lay : Meth B.K C_Wall "lay" a_Wall_lay
  me_Wall_held : Meth B.K C_Wall "held" a_Wall_held
  me_Wall_knock : Meth B.K C_Wall "knock" a_Wall_knock
  me_Wall_blocks : Meth B.K C_Wall "blocks" a_Wall_blocks
  me_Wall_high_at : Meth B.K C_Wall "high_at" a_Wall_high_at
  me_Wall_loopholes : Meth B.K C_Wall "loopholes" a_Wall_loopholes
  me_Wall_joints : Meth B.K C_Wall "joints" a_Wall_joints
  me_Wall_shown : Meth B.K C_Wall "shown" a_Wall_shown
  C_Eave : Addr
  mgc_Eave : B.mg "Eave" = some (.ref C_Eave)
  cls_Eave : ClsF B "Eave" ["long", "icicles"]
  mk_Eave : Mk B.K C_Eave a_Eave_init
  me_Eave_drip : Meth B.K C_Eave "drip" a_Eave_drip
  me_Eave_knock : Meth B.K C_Eave "knock" a_Eave_knock
  me_Eave_thaw : Meth B.K C_Eave "thaw" a_Eave_thaw
  me_Eave_longest : Meth B.K C_Eave "longest" a_Eave_longest
  me_Eave_safe : Meth B.K C_Eave "safe" a_Eave_safe
  me_Eave_shown : Meth B.K C_Eave "shown" a_Eave_shown
  C_Sledge : Addr
  mgc_Sledge : B.mg "Sledge" = some (.ref C_Sledge)
  cls_Sledge : ClsF B "Sledge" ["bears", "load", "runner"]
  mk_Sledge : Mk B.K C_Sledge a_Sledge_init
  me_Sledge_put : Meth B.K C_Sledge "put" a_Sledge_put
  me_Sledge_take : Meth B.K C_Sledge "take" a_Sledge_take
  me_Sledge_weight : Meth B.K C_Sledge "weight" a_Sledge_weight
  me_Sledge_pull : Meth B.K C_Sledge "pull" a_Sledge_pull
  me_Sledge_run : Meth B.K C_Sledge "run" a_Sledge_run
  me_Sledge_shoe : Meth B.K C_Sledge "shoe" a_Sledge_shoe
  me_Sledge_shown : Meth B.K C_Sledge "shown" a_Sledge_shown
  con_DEEDS : ConT B "DEEDS" c_DEEDS
  con_GROUNDS : ConT B "GROUNDS" c_GROUNDS
  con_WAXES : ConT B "WAXES" c_WAXES
  no_ValueError : B.mg "ValueError" = none
  no_abs : B.mg "abs" = none
  no_any : B.mg "any" = none
  no_enumerate : B.mg "enumerate" = none
  no_int : B.mg "int" = none
  no_isinstance : B.mg "isinstance" = none
  no_len : B.mg "len" = none
  no_max : B.mg "max" = none
  no_min : B.mg "min" = none
  no_range : B.mg "range" = none
  no_sorted : B.mg "sorted" = none
  no_str : B.mg "str" = none
  no_sum : B.mg "sum" = none
  no_tuple : B.mg "tuple" = none
  ex_BadDeed : ExT B "BadDeed"
  ex_BadPlan : ExT B "BadPlan"
  ex_BadSize : ExT B "BadSize"
  ex_Breaks : ExT B "Breaks"
  ex_NoRoom : ExT B "NoRoom"
  ex_NoSuch : ExT B "NoSuch"
  ex_NoWay : ExT B "NoWay"
  P_read_row : Addr
  tb_read_row : LamX.TabB base B.mg c_read_row P_read_row
  tm_read_row : (P_read_row, (("read_row" : Str) ++ (".<locals>." : Str)) ++ ("<genexpr>" : Str)) ∈ B.T
  tu_read_row : ∀ p ∈ B.T, p.1 = P_read_row → p.2 = (("read_row" : Str) ++ (".<locals>." : Str)) ++ ("<genexpr>" : Str)
  P_Wall_held : Addr
  tb_Wall_held : LamX.TabB base B.mg c_Wall_held P_Wall_held
  tm_Wall_held : (P_Wall_held, (("Wall.held" : Str) ++ (".<locals>." : Str)) ++ ("<genexpr>" : Str)) ∈ B.T
  tu_Wall_held : ∀ p ∈ B.T, p.1 = P_Wall_held → p.2 = (("Wall.held" : Str) ++ (".<locals>." : Str)) ++ ("<genexpr>" : Str)
  P_Wall_lay : Addr
  tb_Wall_lay : LamX.TabB base B.mg c_Wall_lay P_Wall_lay
  tm_Wall_lay : (P_Wall_lay, (("Wall.lay" : Str) ++ (".<locals>." : Str)) ++ ("<genexpr>" : Str)) ∈ B.T
  tu_Wall_lay : ∀ p ∈ B.T, p.1 = P_Wall_lay → p.2 = (("Wall.lay" : Str) ++ (".<locals>." : Str)) ++ ("<genexpr>" : Str)
  P_Wall_blocks : Addr
  tb_Wall_blocks : LamX.TabB base B.mg c_Wall_blocks P_Wall_blocks
  tm_Wall_blocks : (P_Wall_blocks, (("Wall.blocks" : Str) ++ (".<locals>." : Str)) ++ ("<genexpr>" : Str)) ∈ B.T
  tu_Wall_blocks : ∀ p ∈ B.T, p.1 = P_Wall_blocks → p.2 = (("Wall.blocks" : Str) ++ (".<locals>." : Str)) ++ ("<genexpr>" : Str)
  P_law : Addr
  tb_law : LamX.TabB base B.mg c_law P_law
  tm_law : (P_law, (("law" : Str) ++ (".<locals>." : Str)) ++ ("<lambda>" : Str)) ∈ B.T
  tu_law : ∀ p ∈ B.T, p.1 = P_law → p.2 = (("law" : Str) ++ (".<locals>." : Str)) ++ ("<lambda>" : Str)
  aI_BadText : Addr
  fdI_BadText : FuncData
  ccI_BadText : Addr
  cdI_BadText : Addr
  ini_BadText : IniT B.K C_BadText aI_BadText "row" "__init__" "BadText.__init__" PySem.Challenge.pw_snowhall_k22_refusals_apart.main.file (defArgs s_BadText_init) (defBody s_BadText_init) (defScope s_BadText_init) fdI_BadText ccI_BadText cdI_BadText
  sup_none : B.mg "super" = none
  xf_BadText : L2.XfC B.K C_BadText
  un_ok : UnT B clU C_SnowFault [.ref C_BadDeed, .ref C_BadPlan, .ref C_BadSize, .ref C_BadText, .ref C_Breaks, .ref C_NoRoom, .ref C_NoSuch, .ref C_NoWay, .type "ValueError"]
abbrev csT {B : Bx} {base : Heap} (T : TX B base) : List Value := [.ref T.C_BadDeed, .ref T.C_BadPlan, .ref T.C_BadSize, .ref T.C_BadText, .ref T.C_Breaks, .ref T.C_NoRoom, .ref T.C_NoSuch, .ref T.C_NoWay, .type "ValueError"]
theorem bi_BadText {B : Bx} {base : Heap} (T : TX B base) : L2.Binds B.K T.fdI_BadText ["self", "row"] [] := by
  obtain ⟨oc, od, kV, doc, pm, an, ct, osl, e, lk⟩ := T.ini_BadText.fn
  rw [e]
  exact L2.Binds.all fun us hl => match us, hl with | [a, b], _ => rfl
theorem ini_BadText {B : Bx} {base : Heap} (T : TX B base) {CX : CXT} {w : World} {k : Nat} : FnOk PP w B.K B.mg base CX (k + 1) T.aI_BadText T.fdI_BadText ["self", "row"] (iniSp T.C_BadText "row") :=
  fn_ini (slf := "self") (f := "row") (row := "row") (m := "bad text") T.ini_BadText (NdefX.nscope_by (by decide +kernel)) (by decide +kernel) T.sup_none pp_file pp_top ⟨_, rfl, rfl⟩ (by decide) (by decide) (fun _ => ⟨_, rfl⟩) (by decide) (by decide)
theorem iniH_BadText {B : Bx} {base : Heap} (T : TX B base) {CX : CXT} {w : World} {k : Nat} : L2H.FnH PP w B.K B.mg base CX (k + 1) T.aI_BadText T.fdI_BadText ["self", "row"] (iniSp T.C_BadText "row") :=
  fn_iniH (slf := "self") (f := "row") (row := "row") (m := "bad text") T.ini_BadText (NdefX.nscope_by (by decide +kernel)) (by decide +kernel) T.sup_none pp_file pp_top ⟨_, rfl, rfl⟩ (by decide) (by decide) (fun _ => ⟨_, rfl⟩) (by decide) (by decide)
def tbL (K : PySem.W.Frag) : List (Addr × Str) := [((He.cT K ("read_row", none)).2, (("read_row" : Str) ++ (".<locals>." : Str)) ++ ("<genexpr>" : Str)), ((He.cT K ("Wall", some "held")).2, (("Wall.held" : Str) ++ (".<locals>." : Str)) ++ ("<genexpr>" : Str)), ((He.cT K ("Wall", some "lay")).2, (("Wall.lay" : Str) ++ (".<locals>." : Str)) ++ ("<genexpr>" : Str)), ((He.cT K ("Wall", some "blocks")).2, (("Wall.blocks" : Str) ++ (".<locals>." : Str)) ++ ("<genexpr>" : Str)), ((He.cT K ("law", none)).2, (("law" : Str) ++ (".<locals>." : Str)) ++ ("<lambda>" : Str))]
abbrev BX (K : PySem.W.Frag) (mg : Str → Option Value) : Bx := ⟨K, mg, tbL K, []⟩
theorem tx_of {K : PySem.W.Frag} {h : Heap} {w : World} {mg : Str → Option Value} (X : K.In h) (G : h.Ns mainGlobals mg) (c : He.SaysI faL fnL [] tfL exL ssL w h K) : ∃ fd : FuncData, (∀ (s : Shared) (v : Value), BindsTo s fd ⟨[v], []⟩ [("script", v)]) ∧ mg "law" = some (.ref (He.fAd K d_law.at_)) ∧ ((tbL K).map (·.1)).Nodup ∧ ∀ base : Heap, (∀ p ∈ tfL, LamX.TabB base mg (He.cT K p).1 (He.cT K p).2) → ∃ T : TX (BX K mg) base, T.a_law = He.fAd K d_law.at_ ∧ T.fd_law = fd := by
  have SUP := c.sup 0
  have c := c.x
  have cd := c.t.d
  obtain ⟨hm0, hun⟩ := He.ba c.more
  obtain ⟨hmo, hbt⟩ := He.ba hm0
  obtain ⟨hini, hxf⟩ := He.ba hbt
  obtain ⟨fdI, ccI, cdI, INI⟩ := iniT_of hini SUP
  obtain ⟨hnd, hxx⟩ := He.ba hmo
  obtain ⟨hex, hcon⟩ := He.ba hxx
  have CON : ∀ p ∈ conC, chkV K p.2 (.ref (He.ga K p.1)) = true := List.all_eq_true.mp hcon
  obtain ⟨fd__wall, FD__wall⟩ := cd.def_ 0 (d := d__wall) rfl
  have bi__wall : L2.Binds K fd__wall ["k"] [] := FunD.bindsN FD__wall fun _ _ _ _ _ _ us hl => match us, hl with | [_], _ => rfl
  obtain ⟨fd_Row_init, FD_Row_init⟩ := cd.def_ 1 (d := d_Row_init) rfl
  have bi_Row_init : L2.Binds K fd_Row_init ["self", "day", "kind", "deed", "many"] [] := FunD.bindsN FD_Row_init fun _ _ _ _ _ _ us hl => match us, hl with | [_, _, _, _, _], _ => rfl
  obtain ⟨fd_Book_state, FD_Book_state⟩ := cd.def_ 2 (d := d_Book_state) rfl
  have bi_Book_state : L2.Binds K fd_Book_state ["self", "kind"] [] := FunD.bindsN FD_Book_state fun _ _ _ _ _ _ us hl => match us, hl with | [_, _], _ => rfl
  obtain ⟨fd_Book_add, FD_Book_add⟩ := cd.def_ 3 (d := d_Book_add) rfl
  have bi_Book_add : L2.Binds K fd_Book_add ["self", "line"] [] := FunD.bindsN FD_Book_add fun _ _ _ _ _ _ us hl => match us, hl with | [_, _], _ => rfl
  obtain ⟨fd_Row_said, FD_Row_said⟩ := cd.def_ 4 (d := d_Row_said) rfl
  have bi_Row_said : L2.Binds K fd_Row_said ["self"] [] := FunD.bindsN FD_Row_said fun _ _ _ _ _ _ us hl => match us, hl with | [_], _ => rfl
  obtain ⟨fd_read_row, FD_read_row⟩ := cd.def_ 5 (d := d_read_row) rfl
  have bi_read_row : L2.Binds K fd_read_row ["text"] [] := FunD.bindsN FD_read_row fun _ _ _ _ _ _ us hl => match us, hl with | [_], _ => rfl
  obtain ⟨fd_Book_init, FD_Book_init⟩ := cd.def_ 6 (d := d_Book_init) rfl
  have bi_Book_init : L2.Binds K fd_Book_init ["self", "text"] [] := FunD.bindsN FD_Book_init fun _ _ _ _ _ _ us hl => match us, hl with | [_, _], _ => rfl
  obtain ⟨fd_Desk_init, FD_Desk_init⟩ := cd.def_ 7 (d := d_Desk_init) rfl
  have bi_Desk_init : L2.Binds K fd_Desk_init ["self"] [] := FunD.bindsN FD_Desk_init fun _ _ _ _ _ _ us hl => match us, hl with | [_], _ => rfl
  obtain ⟨fd_Wall_init, FD_Wall_init⟩ := cd.def_ 8 (d := d_Wall_init) rfl
  have bi_Wall_init : L2.Binds K fd_Wall_init ["self", "wide"] [] := FunD.bindsN FD_Wall_init fun _ _ _ _ _ _ us hl => match us, hl with | [_, _], _ => rfl
  obtain ⟨fd_Eave_init, FD_Eave_init⟩ := cd.def_ 9 (d := d_Eave_init) rfl
  have bi_Eave_init : L2.Binds K fd_Eave_init ["self", "long"] [] := FunD.bindsN FD_Eave_init fun _ _ _ _ _ _ us hl => match us, hl with | [_, _], _ => rfl
  obtain ⟨fd_Sledge_init, FD_Sledge_init⟩ := cd.def_ 10 (d := d_Sledge_init) rfl
  have bi_Sledge_init : L2.Binds K fd_Sledge_init ["self", "bears"] [] := FunD.bindsN FD_Sledge_init fun _ _ _ _ _ _ us hl => match us, hl with | [_, _], _ => rfl
  obtain ⟨fd_ice_bears, FD_ice_bears⟩ := cd.def_ 11 (d := d_ice_bears) rfl
  have bi_ice_bears : L2.Binds K fd_ice_bears ["thick"] [] := FunD.bindsN FD_ice_bears fun _ _ _ _ _ _ us hl => match us, hl with | [_], _ => rfl
  obtain ⟨fd_Row_key, FD_Row_key⟩ := cd.def_ 12 (d := d_Row_key) rfl
  have bi_Row_key : L2.Binds K fd_Row_key ["self"] [] := FunD.bindsN FD_Row_key fun _ _ _ _ _ _ us hl => match us, hl with | [_], _ => rfl
  obtain ⟨fd_Book_said, FD_Book_said⟩ := cd.def_ 13 (d := d_Book_said) rfl
  have bi_Book_said : L2.Binds K fd_Book_said ["self"] [] := FunD.bindsN FD_Book_said fun _ _ _ _ _ _ us hl => match us, hl with | [_], _ => rfl
  obtain ⟨fd_Book_with_row, FD_Book_with_row⟩ := cd.def_ 14 (d := d_Book_with_row) rfl
  have bi_Book_with_row : L2.Binds K fd_Book_with_row ["self", "text"] [] := FunD.bindsN FD_Book_with_row fun _ _ _ _ _ _ us hl => match us, hl with | [_, _], _ => rfl
  obtain ⟨fd_Book_without_last, FD_Book_without_last⟩ := cd.def_ 15 (d := d_Book_without_last) rfl
  have bi_Book_without_last : L2.Binds K fd_Book_without_last ["self"] [] := FunD.bindsN FD_Book_without_last fun _ _ _ _ _ _ us hl => match us, hl with | [_], _ => rfl
  obtain ⟨fd_Book_told_kinds, FD_Book_told_kinds⟩ := cd.def_ 16 (d := d_Book_told_kinds) rfl
  have bi_Book_told_kinds : L2.Binds K fd_Book_told_kinds ["self"] [] := FunD.bindsN FD_Book_told_kinds fun _ _ _ _ _ _ us hl => match us, hl with | [_], _ => rfl
  obtain ⟨fd_Book_strewn_in_all, FD_Book_strewn_in_all⟩ := cd.def_ 17 (d := d_Book_strewn_in_all) rfl
  have bi_Book_strewn_in_all : L2.Binds K fd_Book_strewn_in_all ["self"] [] := FunD.bindsN FD_Book_strewn_in_all fun _ _ _ _ _ _ us hl => match us, hl with | [_], _ => rfl
  obtain ⟨fd_Book_first_day, FD_Book_first_day⟩ := cd.def_ 18 (d := d_Book_first_day) rfl
  have bi_Book_first_day : L2.Binds K fd_Book_first_day ["self", "kind"] [] := FunD.bindsN FD_Book_first_day fun _ _ _ _ _ _ us hl => match us, hl with | [_, _], _ => rfl
  obtain ⟨fd_Desk_note, FD_Desk_note⟩ := cd.def_ 19 (d := d_Desk_note) rfl
  have bi_Desk_note : L2.Binds K fd_Desk_note ["self", "text"] [] := FunD.bindsN FD_Desk_note fun _ _ _ _ _ _ us hl => match us, hl with | [_, _], _ => rfl
  obtain ⟨fd_Desk_tell, FD_Desk_tell⟩ := cd.def_ 20 (d := d_Desk_tell) rfl
  have bi_Desk_tell : L2.Binds K fd_Desk_tell ["self", "row"] [] := FunD.bindsN FD_Desk_tell fun _ _ _ _ _ _ us hl => match us, hl with | [_, _], _ => rfl
  obtain ⟨fd_Desk_strike, FD_Desk_strike⟩ := cd.def_ 21 (d := d_Desk_strike) rfl
  have bi_Desk_strike : L2.Binds K fd_Desk_strike ["self"] [] := FunD.bindsN FD_Desk_strike fun _ _ _ _ _ _ us hl => match us, hl with | [_], _ => rfl
  obtain ⟨fd_Desk_judged, FD_Desk_judged⟩ := cd.def_ 22 (d := d_Desk_judged) rfl
  have bi_Desk_judged : L2.Binds K fd_Desk_judged ["self"] [] := FunD.bindsN FD_Desk_judged fun _ _ _ _ _ _ us hl => match us, hl with | [_], _ => rfl
  obtain ⟨fd_Desk_undo, FD_Desk_undo⟩ := cd.def_ 23 (d := d_Desk_undo) rfl
  have bi_Desk_undo : L2.Binds K fd_Desk_undo ["self"] [] := FunD.bindsN FD_Desk_undo fun _ _ _ _ _ _ us hl => match us, hl with | [_], _ => rfl
  obtain ⟨fd_Desk_redo, FD_Desk_redo⟩ := cd.def_ 24 (d := d_Desk_redo) rfl
  have bi_Desk_redo : L2.Binds K fd_Desk_redo ["self"] [] := FunD.bindsN FD_Desk_redo fun _ _ _ _ _ _ us hl => match us, hl with | [_], _ => rfl
  obtain ⟨fd_Wall_held, FD_Wall_held⟩ := cd.def_ 25 (d := d_Wall_held) rfl
  have bi_Wall_held : L2.Binds K fd_Wall_held ["self", "course", "place", "long"] [] := FunD.bindsN FD_Wall_held fun _ _ _ _ _ _ us hl => match us, hl with | [_, _, _, _], _ => rfl
  obtain ⟨fd_Wall_lay, FD_Wall_lay⟩ := cd.def_ 26 (d := d_Wall_lay) rfl
  have bi_Wall_lay : L2.Binds K fd_Wall_lay ["self", "course", "place", "long"] [] := FunD.bindsN FD_Wall_lay fun _ _ _ _ _ _ us hl => match us, hl with | [_, _, _, _], _ => rfl
  obtain ⟨fd_Wall_knock, FD_Wall_knock⟩ := cd.def_ 27 (d := d_Wall_knock) rfl
  have bi_Wall_knock : L2.Binds K fd_Wall_knock ["self", "course", "place"] [] := FunD.bindsN FD_Wall_knock fun _ _ _ _ _ _ us hl => match us, hl with | [_, _, _], _ => rfl
  obtain ⟨fd_Wall_blocks, FD_Wall_blocks⟩ := cd.def_ 28 (d := d_Wall_blocks) rfl
  have bi_Wall_blocks : L2.Binds K fd_Wall_blocks ["self"] [] := FunD.bindsN FD_Wall_blocks fun _ _ _ _ _ _ us hl => match us, hl with | [_], _ => rfl
  obtain ⟨fd_Wall_high_at, FD_Wall_high_at⟩ := cd.def_ 29 (d := d_Wall_high_at) rfl
  have bi_Wall_high_at : L2.Binds K fd_Wall_high_at ["self", "place"] [] := FunD.bindsN FD_Wall_high_at fun _ _ _ _ _ _ us hl => match us, hl with | [_, _], _ => rfl
  obtain ⟨fd_Wall_loopholes, FD_Wall_loopholes⟩ := cd.def_ 30 (d := d_Wall_loopholes) rfl
  have bi_Wall_loopholes : L2.Binds K fd_Wall_loopholes ["self", "course"] [] := FunD.bindsN FD_Wall_loopholes fun _ _ _ _ _ _ us hl => match us, hl with | [_, _], _ => rfl
  obtain ⟨fd_Wall_joints, FD_Wall_joints⟩ := cd.def_ 31 (d := d_Wall_joints) rfl
  have bi_Wall_joints : L2.Binds K fd_Wall_joints ["self"] [] := FunD.bindsN FD_Wall_joints fun _ _ _ _ _ _ us hl => match us, hl with | [_], _ => rfl
  obtain ⟨fd_Wall_shown, FD_Wall_shown⟩ := cd.def_ 32 (d := d_Wall_shown) rfl
  have bi_Wall_shown : L2.Binds K fd_Wall_shown ["self"] [] := FunD.bindsN FD_Wall_shown fun _ _ _ _ _ _ us hl => match us, hl with | [_], _ => rfl
  obtain ⟨fd_Eave_drip, FD_Eave_drip⟩ := cd.def_ 33 (d := d_Eave_drip) rfl
  have bi_Eave_drip : L2.Binds K fd_Eave_drip ["self", "place", "much"] [] := FunD.bindsN FD_Eave_drip fun _ _ _ _ _ _ us hl => match us, hl with | [_, _, _], _ => rfl
  obtain ⟨fd_Eave_knock, FD_Eave_knock⟩ := cd.def_ 34 (d := d_Eave_knock) rfl
  have bi_Eave_knock : L2.Binds K fd_Eave_knock ["self", "place"] [] := FunD.bindsN FD_Eave_knock fun _ _ _ _ _ _ us hl => match us, hl with | [_, _], _ => rfl
  obtain ⟨fd_Eave_thaw, FD_Eave_thaw⟩ := cd.def_ 35 (d := d_Eave_thaw) rfl
  have bi_Eave_thaw : L2.Binds K fd_Eave_thaw ["self", "degrees"] [] := FunD.bindsN FD_Eave_thaw fun _ _ _ _ _ _ us hl => match us, hl with | [_, _], _ => rfl
  obtain ⟨fd_Eave_longest, FD_Eave_longest⟩ := cd.def_ 36 (d := d_Eave_longest) rfl
  have bi_Eave_longest : L2.Binds K fd_Eave_longest ["self"] [] := FunD.bindsN FD_Eave_longest fun _ _ _ _ _ _ us hl => match us, hl with | [_], _ => rfl
  obtain ⟨fd_Eave_safe, FD_Eave_safe⟩ := cd.def_ 37 (d := d_Eave_safe) rfl
  have bi_Eave_safe : L2.Binds K fd_Eave_safe ["self", "most"] [] := FunD.bindsN FD_Eave_safe fun _ _ _ _ _ _ us hl => match us, hl with | [_, _], _ => rfl
  obtain ⟨fd_Eave_shown, FD_Eave_shown⟩ := cd.def_ 38 (d := d_Eave_shown) rfl
  have bi_Eave_shown : L2.Binds K fd_Eave_shown ["self"] [] := FunD.bindsN FD_Eave_shown fun _ _ _ _ _ _ us hl => match us, hl with | [_], _ => rfl
  obtain ⟨fd_drag_of, FD_drag_of⟩ := cd.def_ 39 (d := d_drag_of) rfl
  have bi_drag_of : L2.Binds K fd_drag_of ["name"] [] := FunD.bindsN FD_drag_of fun _ _ _ _ _ _ us hl => match us, hl with | [_], _ => rfl
  obtain ⟨fd_Sledge_weight, FD_Sledge_weight⟩ := cd.def_ 40 (d := d_Sledge_weight) rfl
  have bi_Sledge_weight : L2.Binds K fd_Sledge_weight ["self"] [] := FunD.bindsN FD_Sledge_weight fun _ _ _ _ _ _ us hl => match us, hl with | [_], _ => rfl
  obtain ⟨fd_Sledge_put, FD_Sledge_put⟩ := cd.def_ 41 (d := d_Sledge_put) rfl
  have bi_Sledge_put : L2.Binds K fd_Sledge_put ["self", "name", "weight"] [] := FunD.bindsN FD_Sledge_put fun _ _ _ _ _ _ us hl => match us, hl with | [_, _, _], _ => rfl
  obtain ⟨fd_Sledge_take, FD_Sledge_take⟩ := cd.def_ 42 (d := d_Sledge_take) rfl
  have bi_Sledge_take : L2.Binds K fd_Sledge_take ["self", "name"] [] := FunD.bindsN FD_Sledge_take fun _ _ _ _ _ _ us hl => match us, hl with | [_, _], _ => rfl
  obtain ⟨fd_Sledge_pull, FD_Sledge_pull⟩ := cd.def_ 43 (d := d_Sledge_pull) rfl
  have bi_Sledge_pull : L2.Binds K fd_Sledge_pull ["self", "ground"] [] := FunD.bindsN FD_Sledge_pull fun _ _ _ _ _ _ us hl => match us, hl with | [_, _], _ => rfl
  obtain ⟨fd_Sledge_run, FD_Sledge_run⟩ := cd.def_ 44 (d := d_Sledge_run) rfl
  have bi_Sledge_run : L2.Binds K fd_Sledge_run ["self", "ground", "far"] [] := FunD.bindsN FD_Sledge_run fun _ _ _ _ _ _ us hl => match us, hl with | [_, _, _], _ => rfl
  obtain ⟨fd_Sledge_shoe, FD_Sledge_shoe⟩ := cd.def_ 45 (d := d_Sledge_shoe) rfl
  have bi_Sledge_shoe : L2.Binds K fd_Sledge_shoe ["self"] [] := FunD.bindsN FD_Sledge_shoe fun _ _ _ _ _ _ us hl => match us, hl with | [_], _ => rfl
  obtain ⟨fd_Sledge_shown, FD_Sledge_shown⟩ := cd.def_ 46 (d := d_Sledge_shown) rfl
  have bi_Sledge_shown : L2.Binds K fd_Sledge_shown ["self"] [] := FunD.bindsN FD_Sledge_shown fun _ _ _ _ _ _ us hl => match us, hl with | [_], _ => rfl
  obtain ⟨fd_wax_for, FD_wax_for⟩ := cd.def_ 47 (d := d_wax_for) rfl
  have bi_wax_for : L2.Binds K fd_wax_for ["heat"] [] := FunD.bindsN FD_wax_for fun _ _ _ _ _ _ us hl => match us, hl with | [_], _ => rfl
  obtain ⟨fd__law_dice, FD__law_dice⟩ := cd.def_ 48 (d := d__law_dice) rfl
  have bi__law_dice : L2.Binds K fd__law_dice ["cell"] [] := FunD.bindsN FD__law_dice fun _ _ _ _ _ _ us hl => match us, hl with | [_], _ => rfl
  obtain ⟨fd__law_roll, FD__law_roll⟩ := cd.def_ 49 (d := d__law_roll) rfl
  have bi__law_roll : L2.Binds K fd__law_roll ["dice", "many"] [] := FunD.bindsN FD__law_roll fun _ _ _ _ _ _ us hl => match us, hl with | [_, _], _ => rfl
  obtain ⟨fd__law_rounds, FD__law_rounds⟩ := cd.def_ 50 (d := d__law_rounds) rfl
  have bi__law_rounds : L2.Binds K fd__law_rounds ["script", "most"] [] := FunD.bindsN FD__law_rounds fun _ _ _ _ _ _ us hl => match us, hl with | [_, _], _ => rfl
  obtain ⟨fd__law_under, FD__law_under⟩ := cd.def_ 51 (d := d__law_under) rfl
  have bi__law_under : L2.Binds K fd__law_under ["what"] [] := FunD.bindsN FD__law_under fun _ _ _ _ _ _ us hl => match us, hl with | [_], _ => rfl
  obtain ⟨fd_law, FD_law⟩ := cd.def_ 52 (d := d_law) rfl
  have bi_law : L2.Binds K fd_law ["script"] [] := FunD.bindsN FD_law fun _ _ _ _ _ _ us hl => match us, hl with | [_], _ => rfl
  have F0 := cd.fact 0 (f := .glo "_wall") rfl
  have F1 := cd.fact 1 (f := .glo "read_row") rfl
  have F2 := cd.fact 2 (f := .glo "ice_bears") rfl
  have F3 := cd.fact 3 (f := .glo "drag_of") rfl
  have F4 := cd.fact 4 (f := .glo "wax_for") rfl
  have F5 := cd.fact 5 (f := .glo "_law_dice") rfl
  have F6 := cd.fact 6 (f := .glo "_law_roll") rfl
  have F7 := cd.fact 7 (f := .glo "_law_rounds") rfl
  have F8 := cd.fact 8 (f := .glo "_law_under") rfl
  have F9 := cd.fact 9 (f := .glo "law") rfl
  have F10 := cd.fact 10 (f := .glo "SnowFault") rfl
  have F11 := cd.fact 11 (f := .glo "BadSize") rfl
  have F12 := cd.fact 12 (f := .glo "BadPlan") rfl
  have F13 := cd.fact 13 (f := .glo "NoSuch") rfl
  have F14 := cd.fact 14 (f := .glo "NoRoom") rfl
  have F15 := cd.fact 15 (f := .glo "NoWay") rfl
  have F16 := cd.fact 16 (f := .glo "Breaks") rfl
  have F17 := cd.fact 17 (f := .glo "BadText") rfl
  have F18 := cd.fact 18 (f := .glo "BadDeed") rfl
  have F19 := cd.fact 19 (f := .glo "Row") rfl
  have F20 := cd.fact 20 (f := .glo "Book") rfl
  have F21 := cd.fact 21 (f := .glo "Desk") rfl
  have F22 := cd.fact 22 (f := .glo "Wall") rfl
  have F23 := cd.fact 23 (f := .glo "Eave") rfl
  have F24 := cd.fact 24 (f := .glo "Sledge") rfl
  have F25 := cd.fact 25 (f := .glo "DEEDS") rfl
  have F26 := cd.fact 26 (f := .glo "GROUNDS") rfl
  have F27 := cd.fact 27 (f := .glo "WAXES") rfl
  have F28 := cd.fact 28 (f := .free "ValueError") rfl
  have F29 := cd.fact 29 (f := .free "abs") rfl
  have F30 := cd.fact 30 (f := .free "any") rfl
  have F31 := cd.fact 31 (f := .free "enumerate") rfl
  have F32 := cd.fact 32 (f := .free "int") rfl
  have F33 := cd.fact 33 (f := .free "isinstance") rfl
  have F34 := cd.fact 34 (f := .free "len") rfl
  have F35 := cd.fact 35 (f := .free "max") rfl
  have F36 := cd.fact 36 (f := .free "min") rfl
  have F37 := cd.fact 37 (f := .free "range") rfl
  have F38 := cd.fact 38 (f := .free "sorted") rfl
  have F39 := cd.fact 39 (f := .free "str") rfl
  have F40 := cd.fact 40 (f := .free "sum") rfl
  have F41 := cd.fact 41 (f := .free "tuple") rfl
  have F42 := cd.fact 42 (f := .cls "Row") rfl
  have F43 := cd.fact 43 (f := .noat "Row" "day") rfl
  have F44 := cd.fact 44 (f := .noat "Row" "kind") rfl
  have F45 := cd.fact 45 (f := .noat "Row" "deed") rfl
  have F46 := cd.fact 46 (f := .noat "Row" "many") rfl
  have F47 := cd.fact 47 (f := .mkr "Row") rfl
  have F48 := cd.fact 48 (f := .meth "Row" "said") rfl
  have F49 := cd.fact 49 (f := .meth "Row" "key") rfl
  have F50 := cd.fact 50 (f := .cls "Book") rfl
  have F51 := cd.fact 51 (f := .noat "Book" "lines") rfl
  have F52 := cd.fact 52 (f := .mkr "Book") rfl
  have F53 := cd.fact 53 (f := .meth "Book" "state") rfl
  have F54 := cd.fact 54 (f := .meth "Book" "add") rfl
  have F55 := cd.fact 55 (f := .meth "Book" "said") rfl
  have F56 := cd.fact 56 (f := .meth "Book" "with_row") rfl
  have F57 := cd.fact 57 (f := .meth "Book" "without_last") rfl
  have F58 := cd.fact 58 (f := .meth "Book" "told_kinds") rfl
  have F59 := cd.fact 59 (f := .meth "Book" "strewn_in_all") rfl
  have F60 := cd.fact 60 (f := .meth "Book" "first_day") rfl
  have F61 := cd.fact 61 (f := .cls "Desk") rfl
  have F62 := cd.fact 62 (f := .noat "Desk" "text") rfl
  have F63 := cd.fact 63 (f := .noat "Desk" "deeds") rfl
  have F64 := cd.fact 64 (f := .noat "Desk" "undone") rfl
  have F65 := cd.fact 65 (f := .mkr "Desk") rfl
  have F66 := cd.fact 66 (f := .meth "Desk" "note") rfl
  have F67 := cd.fact 67 (f := .meth "Desk" "tell") rfl
  have F68 := cd.fact 68 (f := .meth "Desk" "strike") rfl
  have F69 := cd.fact 69 (f := .meth "Desk" "judged") rfl
  have F70 := cd.fact 70 (f := .meth "Desk" "undo") rfl
  have F71 := cd.fact 71 (f := .meth "Desk" "redo") rfl
  have F72 := cd.fact 72 (f := .cls "Wall") rfl
  have F73 := cd.fact 73 (f := .noat "Wall" "wide") rfl
  have F74 := cd.fact 74 (f := .noat "Wall" "courses") rfl
  have F75 := cd.fact 75 (f := .mkr "Wall") rfl
  have F76 := cd.fact 76 (f := .meth "Wall" "lay") rfl
  have F77 := cd.fact 77 (f := .meth "Wall" "held") rfl
  have F78 := cd.fact 78 (f := .meth "Wall" "knock") rfl
  have F79 := cd.fact 79 (f := .meth "Wall" "blocks") rfl
  have F80 := cd.fact 80 (f := .meth "Wall" "high_at") rfl
  have F81 := cd.fact 81 (f := .meth "Wall" "loopholes") rfl
  have F82 := cd.fact 82 (f := .meth "Wall" "joints") rfl
  have F83 := cd.fact 83 (f := .meth "Wall" "shown") rfl
  have F84 := cd.fact 84 (f := .cls "Eave") rfl
  have F85 := cd.fact 85 (f := .noat "Eave" "long") rfl
  have F86 := cd.fact 86 (f := .noat "Eave" "icicles") rfl
  have F87 := cd.fact 87 (f := .mkr "Eave") rfl
  have F88 := cd.fact 88 (f := .meth "Eave" "drip") rfl
  have F89 := cd.fact 89 (f := .meth "Eave" "knock") rfl
  have F90 := cd.fact 90 (f := .meth "Eave" "thaw") rfl
  have F91 := cd.fact 91 (f := .meth "Eave" "longest") rfl
  have F92 := cd.fact 92 (f := .meth "Eave" "safe") rfl
  have F93 := cd.fact 93 (f := .meth "Eave" "shown") rfl
  have F94 := cd.fact 94 (f := .cls "Sledge") rfl
  have F95 := cd.fact 95 (f := .noat "Sledge" "bears") rfl
  have F96 := cd.fact 96 (f := .noat "Sledge" "load") rfl
  have F97 := cd.fact 97 (f := .noat "Sledge" "runner") rfl
  have F98 := cd.fact 98 (f := .mkr "Sledge") rfl
  have F99 := cd.fact 99 (f := .meth "Sledge" "put") rfl
  have F100 := cd.fact 100 (f := .meth "Sledge" "take") rfl
  have F101 := cd.fact 101 (f := .meth "Sledge" "weight") rfl
  have F102 := cd.fact 102 (f := .meth "Sledge" "pull") rfl
  have F103 := cd.fact 103 (f := .meth "Sledge" "run") rfl
  have F104 := cd.fact 104 (f := .meth "Sledge" "shoe") rfl
  have F105 := cd.fact 105 (f := .meth "Sledge" "shown") rfl
  have F106 := cd.fact 106 (f := .exc "BadDeed") rfl
  have F107 := cd.fact 107 (f := .exc "BadPlan") rfl
  have F108 := cd.fact 108 (f := .exc "BadSize") rfl
  have F109 := cd.fact 109 (f := .exc "Breaks") rfl
  have F110 := cd.fact 110 (f := .exc "NoRoom") rfl
  have F111 := cd.fact 111 (f := .exc "NoSuch") rfl
  have F112 := cd.fact 112 (f := .exc "NoWay") rfl
  obtain ⟨ex_BadDeed, _⟩ := exT_of (T := tbL K) (G := []) X G F18 F106
  obtain ⟨ex_BadPlan, _⟩ := exT_of (T := tbL K) (G := []) X G F12 F107
  obtain ⟨ex_BadSize, _⟩ := exT_of (T := tbL K) (G := []) X G F11 F108
  obtain ⟨ex_Breaks, _⟩ := exT_of (T := tbL K) (G := []) X G F16 F109
  obtain ⟨ex_NoRoom, _⟩ := exT_of (T := tbL K) (G := []) X G F14 F110
  obtain ⟨ex_NoSuch, _⟩ := exT_of (T := tbL K) (G := []) X G F13 F111
  obtain ⟨ex_NoWay, _⟩ := exT_of (T := tbL K) (G := []) X G F15 F112
  have GU : ∀ c, c ∈ clU.map (·.1) → mg c = some (.ref (He.ga K c)) := by
    intro c hc
    simp only [clU, List.map_cons, List.map_nil, List.mem_cons, List.not_mem_nil, or_false] at hc
    rcases hc with rfl | rfl | rfl | rfl | rfl | rfl | rfl | rfl
    · exact He.glo_ok X G F18
    · exact He.glo_ok X G F12
    · exact He.glo_ok X G F11
    · exact He.glo_ok X G F17
    · exact He.glo_ok X G F16
    · exact He.glo_ok X G F14
    · exact He.glo_ok X G F13
    · exact He.glo_ok X G F15
  have ND : ((tbL K).map (·.1)).Nodup := of_decide_eq_true hnd
  have TU : ∀ (P : Addr) (q : Str), (P, q) ∈ tbL K → ∀ p ∈ tbL K, p.1 = P → p.2 = q := tabs_uniq ND
  refine ⟨fd_law, (fun s v => FunD.bindsA (ps := ["script"]) FD_law (fun _ _ _ _ _ _ us hl => match us, hl with | [_], _ => rfl) s [v] rfl), He.glo_ok X G F9, ND, fun base hb => ?_⟩
  have TB_read_row := hb ("read_row", none) (by simp [tfL])
  have TB_Wall_held := hb ("Wall", some "held") (by simp [tfL])
  have TB_Wall_lay := hb ("Wall", some "lay") (by simp [tfL])
  have TB_Wall_blocks := hb ("Wall", some "blocks") (by simp [tfL])
  have TB_law := hb ("law", none) (by simp [tfL])
  refine ⟨{
    a__wall := He.fAd K d__wall.at_, fd__wall := fd__wall, c__wall := He.codeOf K d__wall.at_, fu__wall := funC_of (d := d__wall) FD__wall, bi__wall := bi__wall,
    mg__wall := He.glo_ok X G F0,
    a_Row_init := He.fAd K d_Row_init.at_, fd_Row_init := fd_Row_init, c_Row_init := He.codeOf K d_Row_init.at_, fu_Row_init := funC_of (d := d_Row_init) FD_Row_init, bi_Row_init := bi_Row_init,
    a_Book_state := He.fAd K d_Book_state.at_, fd_Book_state := fd_Book_state, c_Book_state := He.codeOf K d_Book_state.at_, fu_Book_state := funC_of (d := d_Book_state) FD_Book_state, bi_Book_state := bi_Book_state,
    a_Book_add := He.fAd K d_Book_add.at_, fd_Book_add := fd_Book_add, c_Book_add := He.codeOf K d_Book_add.at_, fu_Book_add := funC_of (d := d_Book_add) FD_Book_add, bi_Book_add := bi_Book_add,
    a_Row_said := He.fAd K d_Row_said.at_, fd_Row_said := fd_Row_said, c_Row_said := He.codeOf K d_Row_said.at_, fu_Row_said := funC_of (d := d_Row_said) FD_Row_said, bi_Row_said := bi_Row_said,
    a_read_row := He.fAd K d_read_row.at_, fd_read_row := fd_read_row, c_read_row := He.codeOf K d_read_row.at_, fu_read_row := funC_of (d := d_read_row) FD_read_row, bi_read_row := bi_read_row,
    mg_read_row := He.glo_ok X G F1,
    a_Book_init := He.fAd K d_Book_init.at_, fd_Book_init := fd_Book_init, c_Book_init := He.codeOf K d_Book_init.at_, fu_Book_init := funC_of (d := d_Book_init) FD_Book_init, bi_Book_init := bi_Book_init,
    a_Desk_init := He.fAd K d_Desk_init.at_, fd_Desk_init := fd_Desk_init, c_Desk_init := He.codeOf K d_Desk_init.at_, fu_Desk_init := funC_of (d := d_Desk_init) FD_Desk_init, bi_Desk_init := bi_Desk_init,
    a_Wall_init := He.fAd K d_Wall_init.at_, fd_Wall_init := fd_Wall_init, c_Wall_init := He.codeOf K d_Wall_init.at_, fu_Wall_init := funC_of (d := d_Wall_init) FD_Wall_init, bi_Wall_init := bi_Wall_init,
    a_Eave_init := He.fAd K d_Eave_init.at_, fd_Eave_init := fd_Eave_init, c_Eave_init := He.codeOf K d_Eave_init.at_, fu_Eave_init := funC_of (d := d_Eave_init) FD_Eave_init, bi_Eave_init := bi_Eave_init,
    a_Sledge_init := He.fAd K d_Sledge_init.at_, fd_Sledge_init := fd_Sledge_init, c_Sledge_init := He.codeOf K d_Sledge_init.at_, fu_Sledge_init := funC_of (d := d_Sledge_init) FD_Sledge_init, bi_Sledge_init := bi_Sledge_init,
    a_ice_bears := He.fAd K d_ice_bears.at_, fd_ice_bears := fd_ice_bears, c_ice_bears := He.codeOf K d_ice_bears.at_, fu_ice_bears := funC_of (d := d_ice_bears) FD_ice_bears, bi_ice_bears := bi_ice_bears,
    mg_ice_bears := He.glo_ok X G F2,
    a_Row_key := He.fAd K d_Row_key.at_, fd_Row_key := fd_Row_key, c_Row_key := He.codeOf K d_Row_key.at_, fu_Row_key := funC_of (d := d_Row_key) FD_Row_key, bi_Row_key := bi_Row_key,
    a_Book_said := He.fAd K d_Book_said.at_, fd_Book_said := fd_Book_said, c_Book_said := He.codeOf K d_Book_said.at_, fu_Book_said := funC_of (d := d_Book_said) FD_Book_said, bi_Book_said := bi_Book_said,
    a_Book_with_row := He.fAd K d_Book_with_row.at_, fd_Book_with_row := fd_Book_with_row, c_Book_with_row := He.codeOf K d_Book_with_row.at_, fu_Book_with_row := funC_of (d := d_Book_with_row) FD_Book_with_row, bi_Book_with_row := bi_Book_with_row,
    a_Book_without_last := He.fAd K d_Book_without_last.at_, fd_Book_without_last := fd_Book_without_last, c_Book_without_last := He.codeOf K d_Book_without_last.at_, fu_Book_without_last := funC_of (d := d_Book_without_last) FD_Book_without_last, bi_Book_without_last := bi_Book_without_last,
    a_Book_told_kinds := He.fAd K d_Book_told_kinds.at_, fd_Book_told_kinds := fd_Book_told_kinds, c_Book_told_kinds := He.codeOf K d_Book_told_kinds.at_, fu_Book_told_kinds := funC_of (d := d_Book_told_kinds) FD_Book_told_kinds, bi_Book_told_kinds := bi_Book_told_kinds,
    a_Book_strewn_in_all := He.fAd K d_Book_strewn_in_all.at_, fd_Book_strewn_in_all := fd_Book_strewn_in_all, c_Book_strewn_in_all := He.codeOf K d_Book_strewn_in_all.at_, fu_Book_strewn_in_all := funC_of (d := d_Book_strewn_in_all) FD_Book_strewn_in_all, bi_Book_strewn_in_all := bi_Book_strewn_in_all,
    a_Book_first_day := He.fAd K d_Book_first_day.at_, fd_Book_first_day := fd_Book_first_day, c_Book_first_day := He.codeOf K d_Book_first_day.at_, fu_Book_first_day := funC_of (d := d_Book_first_day) FD_Book_first_day, bi_Book_first_day := bi_Book_first_day,
    a_Desk_note := He.fAd K d_Desk_note.at_, fd_Desk_note := fd_Desk_note, c_Desk_note := He.codeOf K d_Desk_note.at_, fu_Desk_note := funC_of (d := d_Desk_note) FD_Desk_note, bi_Desk_note := bi_Desk_note,
    a_Desk_tell := He.fAd K d_Desk_tell.at_, fd_Desk_tell := fd_Desk_tell, c_Desk_tell := He.codeOf K d_Desk_tell.at_, fu_Desk_tell := funC_of (d := d_Desk_tell) FD_Desk_tell, bi_Desk_tell := bi_Desk_tell,
    a_Desk_strike := He.fAd K d_Desk_strike.at_, fd_Desk_strike := fd_Desk_strike, c_Desk_strike := He.codeOf K d_Desk_strike.at_, fu_Desk_strike := funC_of (d := d_Desk_strike) FD_Desk_strike, bi_Desk_strike := bi_Desk_strike,
    a_Desk_judged := He.fAd K d_Desk_judged.at_, fd_Desk_judged := fd_Desk_judged, c_Desk_judged := He.codeOf K d_Desk_judged.at_, fu_Desk_judged := funC_of (d := d_Desk_judged) FD_Desk_judged, bi_Desk_judged := bi_Desk_judged,
    a_Desk_undo := He.fAd K d_Desk_undo.at_, fd_Desk_undo := fd_Desk_undo, c_Desk_undo := He.codeOf K d_Desk_undo.at_, fu_Desk_undo := funC_of (d := d_Desk_undo) FD_Desk_undo, bi_Desk_undo := bi_Desk_undo,
    a_Desk_redo := He.fAd K d_Desk_redo.at_, fd_Desk_redo := fd_Desk_redo, c_Desk_redo := He.codeOf K d_Desk_redo.at_, fu_Desk_redo := funC_of (d := d_Desk_redo) FD_Desk_redo, bi_Desk_redo := bi_Desk_redo,
    a_Wall_held := He.fAd K d_Wall_held.at_, fd_Wall_held := fd_Wall_held, c_Wall_held := He.codeOf K d_Wall_held.at_, fu_Wall_held := funC_of (d := d_Wall_held) FD_Wall_held, bi_Wall_held := bi_Wall_held,
    a_Wall_lay := He.fAd K d_Wall_lay.at_, fd_Wall_lay := fd_Wall_lay, c_Wall_lay := He.codeOf K d_Wall_lay.at_, fu_Wall_lay := funC_of (d := d_Wall_lay) FD_Wall_lay, bi_Wall_lay := bi_Wall_lay,
    a_Wall_knock := He.fAd K d_Wall_knock.at_, fd_Wall_knock := fd_Wall_knock, c_Wall_knock := He.codeOf K d_Wall_knock.at_, fu_Wall_knock := funC_of (d := d_Wall_knock) FD_Wall_knock, bi_Wall_knock := bi_Wall_knock,
    a_Wall_blocks := He.fAd K d_Wall_blocks.at_, fd_Wall_blocks := fd_Wall_blocks, c_Wall_blocks := He.codeOf K d_Wall_blocks.at_, fu_Wall_blocks := funC_of (d := d_Wall_blocks) FD_Wall_blocks, bi_Wall_blocks := bi_Wall_blocks,
    a_Wall_high_at := He.fAd K d_Wall_high_at.at_, fd_Wall_high_at := fd_Wall_high_at, c_Wall_high_at := He.codeOf K d_Wall_high_at.at_, fu_Wall_high_at := funC_of (d := d_Wall_high_at) FD_Wall_high_at, bi_Wall_high_at := bi_Wall_high_at,
    a_Wall_loopholes := He.fAd K d_Wall_loopholes.at_, fd_Wall_loopholes := fd_Wall_loopholes, c_Wall_loopholes := He.codeOf K d_Wall_loopholes.at_, fu_Wall_loopholes := funC_of (d := d_Wall_loopholes) FD_Wall_loopholes, bi_Wall_loopholes := bi_Wall_loopholes,
    a_Wall_joints := He.fAd K d_Wall_joints.at_, fd_Wall_joints := fd_Wall_joints, c_Wall_joints := He.codeOf K d_Wall_joints.at_, fu_Wall_joints := funC_of (d := d_Wall_joints) FD_Wall_joints, bi_Wall_joints := bi_Wall_joints,
    a_Wall_shown := He.fAd K d_Wall_shown.at_, fd_Wall_shown := fd_Wall_shown, c_Wall_shown := He.codeOf K d_Wall_shown.at_, fu_Wall_shown := funC_of (d := d_Wall_shown) FD_Wall_shown, bi_Wall_shown := bi_Wall_shown,
    a_Eave_drip := He.fAd K d_Eave_drip.at_, fd_Eave_drip := fd_Eave_drip, c_Eave_drip := He.codeOf K d_Eave_drip.at_, fu_Eave_drip := funC_of (d := d_Eave_drip) FD_Eave_drip, bi_Eave_drip := bi_Eave_drip,
    a_Eave_knock := He.fAd K d_Eave_knock.at_, fd_Eave_knock := fd_Eave_knock, c_Eave_knock := He.codeOf K d_Eave_knock.at_, fu_Eave_knock := funC_of (d := d_Eave_knock) FD_Eave_knock, bi_Eave_knock := bi_Eave_knock,
    a_Eave_thaw := He.fAd K d_Eave_thaw.at_, fd_Eave_thaw := fd_Eave_thaw, c_Eave_thaw := He.codeOf K d_Eave_thaw.at_, fu_Eave_thaw := funC_of (d := d_Eave_thaw) FD_Eave_thaw, bi_Eave_thaw := bi_Eave_thaw,
    a_Eave_longest := He.fAd K d_Eave_longest.at_, fd_Eave_longest := fd_Eave_longest, c_Eave_longest := He.codeOf K d_Eave_longest.at_, fu_Eave_longest := funC_of (d := d_Eave_longest) FD_Eave_longest, bi_Eave_longest := bi_Eave_longest,
    a_Eave_safe := He.fAd K d_Eave_safe.at_, fd_Eave_safe := fd_Eave_safe, c_Eave_safe := He.codeOf K d_Eave_safe.at_, fu_Eave_safe := funC_of (d := d_Eave_safe) FD_Eave_safe, bi_Eave_safe := bi_Eave_safe,
    a_Eave_shown := He.fAd K d_Eave_shown.at_, fd_Eave_shown := fd_Eave_shown, c_Eave_shown := He.codeOf K d_Eave_shown.at_, fu_Eave_shown := funC_of (d := d_Eave_shown) FD_Eave_shown, bi_Eave_shown := bi_Eave_shown,
    a_drag_of := He.fAd K d_drag_of.at_, fd_drag_of := fd_drag_of, c_drag_of := He.codeOf K d_drag_of.at_, fu_drag_of := funC_of (d := d_drag_of) FD_drag_of, bi_drag_of := bi_drag_of,
    mg_drag_of := He.glo_ok X G F3,
    a_Sledge_weight := He.fAd K d_Sledge_weight.at_, fd_Sledge_weight := fd_Sledge_weight, c_Sledge_weight := He.codeOf K d_Sledge_weight.at_, fu_Sledge_weight := funC_of (d := d_Sledge_weight) FD_Sledge_weight, bi_Sledge_weight := bi_Sledge_weight,
    a_Sledge_put := He.fAd K d_Sledge_put.at_, fd_Sledge_put := fd_Sledge_put, c_Sledge_put := He.codeOf K d_Sledge_put.at_, fu_Sledge_put := funC_of (d := d_Sledge_put) FD_Sledge_put, bi_Sledge_put := bi_Sledge_put,
    a_Sledge_take := He.fAd K d_Sledge_take.at_, fd_Sledge_take := fd_Sledge_take, c_Sledge_take := He.codeOf K d_Sledge_take.at_, fu_Sledge_take := funC_of (d := d_Sledge_take) FD_Sledge_take, bi_Sledge_take := bi_Sledge_take,
    a_Sledge_pull := He.fAd K d_Sledge_pull.at_, fd_Sledge_pull := fd_Sledge_pull, c_Sledge_pull := He.codeOf K d_Sledge_pull.at_, fu_Sledge_pull := funC_of (d := d_Sledge_pull) FD_Sledge_pull, bi_Sledge_pull := bi_Sledge_pull,
    a_Sledge_run := He.fAd K d_Sledge_run.at_, fd_Sledge_run := fd_Sledge_run, c_Sledge_run := He.codeOf K d_Sledge_run.at_, fu_Sledge_run := funC_of (d := d_Sledge_run) FD_Sledge_run, bi_Sledge_run := bi_Sledge_run,
    a_Sledge_shoe := He.fAd K d_Sledge_shoe.at_, fd_Sledge_shoe := fd_Sledge_shoe, c_Sledge_shoe := He.codeOf K d_Sledge_shoe.at_, fu_Sledge_shoe := funC_of (d := d_Sledge_shoe) FD_Sledge_shoe, bi_Sledge_shoe := bi_Sledge_shoe,
    a_Sledge_shown := He.fAd K d_Sledge_shown.at_, fd_Sledge_shown := fd_Sledge_shown, c_Sledge_shown := He.codeOf K d_Sledge_shown.at_, fu_Sledge_shown := funC_of (d := d_Sledge_shown) FD_Sledge_shown, bi_Sledge_shown := bi_Sledge_shown,
    a_wax_for := He.fAd K d_wax_for.at_, fd_wax_for := fd_wax_for, c_wax_for := He.codeOf K d_wax_for.at_, fu_wax_for := funC_of (d := d_wax_for) FD_wax_for, bi_wax_for := bi_wax_for,
    mg_wax_for := He.glo_ok X G F4,
    a__law_dice := He.fAd K d__law_dice.at_, fd__law_dice := fd__law_dice, c__law_dice := He.codeOf K d__law_dice.at_, fu__law_dice := funC_of (d := d__law_dice) FD__law_dice, bi__law_dice := bi__law_dice,
    mg__law_dice := He.glo_ok X G F5,
    a__law_roll := He.fAd K d__law_roll.at_, fd__law_roll := fd__law_roll, c__law_roll := He.codeOf K d__law_roll.at_, fu__law_roll := funC_of (d := d__law_roll) FD__law_roll, bi__law_roll := bi__law_roll,
    mg__law_roll := He.glo_ok X G F6,
    a__law_rounds := He.fAd K d__law_rounds.at_, fd__law_rounds := fd__law_rounds, c__law_rounds := He.codeOf K d__law_rounds.at_, fu__law_rounds := funC_of (d := d__law_rounds) FD__law_rounds, bi__law_rounds := bi__law_rounds,
    mg__law_rounds := He.glo_ok X G F7,
    a__law_under := He.fAd K d__law_under.at_, fd__law_under := fd__law_under, c__law_under := He.codeOf K d__law_under.at_, fu__law_under := funC_of (d := d__law_under) FD__law_under, bi__law_under := bi__law_under,
    mg__law_under := He.glo_ok X G F8,
    a_law := He.fAd K d_law.at_, fd_law := fd_law, c_law := He.codeOf K d_law.at_, fu_law := funC_of (d := d_law) FD_law, bi_law := bi_law,
    mg_law := He.glo_ok X G F9,
    C_SnowFault := He.ga K "SnowFault", mgc_SnowFault := He.glo_ok X G F10,
    C_BadSize := He.ga K "BadSize", mgc_BadSize := He.glo_ok X G F11,
    C_BadPlan := He.ga K "BadPlan", mgc_BadPlan := He.glo_ok X G F12,
    C_NoSuch := He.ga K "NoSuch", mgc_NoSuch := He.glo_ok X G F13,
    C_NoRoom := He.ga K "NoRoom", mgc_NoRoom := He.glo_ok X G F14,
    C_NoWay := He.ga K "NoWay", mgc_NoWay := He.glo_ok X G F15,
    C_Breaks := He.ga K "Breaks", mgc_Breaks := He.glo_ok X G F16,
    C_BadText := He.ga K "BadText", mgc_BadText := He.glo_ok X G F17,
    C_BadDeed := He.ga K "BadDeed", mgc_BadDeed := He.glo_ok X G F18,
    C_Row := He.ga K "Row", mgc_Row := He.glo_ok X G F19,
    cls_Row := clsF_of (He.glo_ok X G F19) (He.cls_ok F42) (fun f hf => by
      simp only [List.mem_cons, List.not_mem_nil, or_false] at hf
      rcases hf with rfl | rfl | rfl | rfl
      · exact He.noat_ok F43
      · exact He.noat_ok F44
      · exact He.noat_ok F45
      · exact He.noat_ok F46),
    mk_Row := He.mkr_ok F47,
    me_Row_said := He.meth_ok F48,
    me_Row_key := He.meth_ok F49,
    C_Book := He.ga K "Book", mgc_Book := He.glo_ok X G F20,
    cls_Book := clsF_of (He.glo_ok X G F20) (He.cls_ok F50) (fun f hf => by
      simp only [List.mem_cons, List.not_mem_nil, or_false] at hf
      rcases hf with rfl
      · exact He.noat_ok F51),
    mk_Book := He.mkr_ok F52,
    me_Book_state := He.meth_ok F53,
    me_Book_add := He.meth_ok F54,
    me_Book_said := He.meth_ok F55,
    me_Book_with_row := He.meth_ok F56,
    me_Book_without_last := He.meth_ok F57,
    me_Book_told_kinds := He.meth_ok F58,
    me_Book_strewn_in_all := He.meth_ok F59,
    me_Book_first_day := He.meth_ok F60,
    C_Desk := He.ga K "Desk", mgc_Desk := He.glo_ok X G F21,
    cls_Desk := clsF_of (He.glo_ok X G F21) (He.cls_ok F61) (fun f hf => by
      simp only [List.mem_cons, List.not_mem_nil, or_false] at hf
      rcases hf with rfl | rfl | rfl
      · exact He.noat_ok F62
      · exact He.noat_ok F63
      · exact He.noat_ok F64),
    mk_Desk := He.mkr_ok F65,
    me_Desk_note := He.meth_ok F66,
    me_Desk_tell := He.meth_ok F67,
    me_Desk_strike := He.meth_ok F68,
    me_Desk_judged := He.meth_ok F69,
    me_Desk_undo := He.meth_ok F70,
    me_Desk_redo := He.meth_ok F71,
    C_Wall := He.ga K "Wall", mgc_Wall := He.glo_ok X G F22,
    cls_Wall := clsF_of (He.glo_ok X G F22) (He.cls_ok F72) (fun f hf => by
      simp only [List.mem_cons, List.not_mem_nil, or_false] at hf
      rcases hf with rfl | rfl
      · exact He.noat_ok F73
      · exact He.noat_ok F74),
    mk_Wall := He.mkr_ok F75,
    me_Wall_lay := He.meth_ok F76,
    me_Wall_held := He.meth_ok F77,
    me_Wall_knock := He.meth_ok F78,
    me_Wall_blocks := He.meth_ok F79,
    me_Wall_high_at := He.meth_ok F80,
    me_Wall_loopholes := He.meth_ok F81,
    me_Wall_joints := He.meth_ok F82,
    me_Wall_shown := He.meth_ok F83,
    C_Eave := He.ga K "Eave", mgc_Eave := He.glo_ok X G F23,
    cls_Eave := clsF_of (He.glo_ok X G F23) (He.cls_ok F84) (fun f hf => by
      simp only [List.mem_cons, List.not_mem_nil, or_false] at hf
      rcases hf with rfl | rfl
      · exact He.noat_ok F85
      · exact He.noat_ok F86),
    mk_Eave := He.mkr_ok F87,
    me_Eave_drip := He.meth_ok F88,
    me_Eave_knock := He.meth_ok F89,
    me_Eave_thaw := He.meth_ok F90,
    me_Eave_longest := He.meth_ok F91,
    me_Eave_safe := He.meth_ok F92,
    me_Eave_shown := He.meth_ok F93,
    C_Sledge := He.ga K "Sledge", mgc_Sledge := He.glo_ok X G F24,
    cls_Sledge := clsF_of (He.glo_ok X G F24) (He.cls_ok F94) (fun f hf => by
      simp only [List.mem_cons, List.not_mem_nil, or_false] at hf
      rcases hf with rfl | rfl | rfl
      · exact He.noat_ok F95
      · exact He.noat_ok F96
      · exact He.noat_ok F97),
    mk_Sledge := He.mkr_ok F98,
    me_Sledge_put := He.meth_ok F99,
    me_Sledge_take := He.meth_ok F100,
    me_Sledge_weight := He.meth_ok F101,
    me_Sledge_pull := He.meth_ok F102,
    me_Sledge_run := He.meth_ok F103,
    me_Sledge_shoe := He.meth_ok F104,
    me_Sledge_shown := He.meth_ok F105,
    con_DEEDS := ⟨_, He.glo_ok X G F25, CON ("DEEDS", c_DEEDS) (by simp [conC])⟩,
    con_GROUNDS := ⟨_, He.glo_ok X G F26, CON ("GROUNDS", c_GROUNDS) (by simp [conC])⟩,
    con_WAXES := ⟨_, He.glo_ok X G F27, CON ("WAXES", c_WAXES) (by simp [conC])⟩,
    no_ValueError := He.free_ok X G F28,
    no_abs := He.free_ok X G F29,
    no_any := He.free_ok X G F30,
    no_enumerate := He.free_ok X G F31,
    no_int := He.free_ok X G F32,
    no_isinstance := He.free_ok X G F33,
    no_len := He.free_ok X G F34,
    no_max := He.free_ok X G F35,
    no_min := He.free_ok X G F36,
    no_range := He.free_ok X G F37,
    no_sorted := He.free_ok X G F38,
    no_str := He.free_ok X G F39,
    no_sum := He.free_ok X G F40,
    no_tuple := He.free_ok X G F41,
    ex_BadDeed := ex_BadDeed,
    ex_BadPlan := ex_BadPlan,
    ex_BadSize := ex_BadSize,
    ex_Breaks := ex_Breaks,
    ex_NoRoom := ex_NoRoom,
    ex_NoSuch := ex_NoSuch,
    ex_NoWay := ex_NoWay,
    aI_BadText := _, fdI_BadText := fdI, ccI_BadText := ccI, cdI_BadText := cdI, ini_BadText := INI, sup_none := PySem.W.mg_none_of X G INI.sup, xf_BadText := L2.xfB_ok hxf,
    un_ok := unT_of (T := tbL K) (G := []) hun GU,
    P_read_row := (He.cT K ("read_row", none)).2, tb_read_row := TB_read_row, tm_read_row := (by simp [tbL]), tu_read_row := TU _ _ (by simp [tbL]),
    P_Wall_held := (He.cT K ("Wall", some "held")).2, tb_Wall_held := TB_Wall_held, tm_Wall_held := (by simp [tbL]), tu_Wall_held := TU _ _ (by simp [tbL]),
    P_Wall_lay := (He.cT K ("Wall", some "lay")).2, tb_Wall_lay := TB_Wall_lay, tm_Wall_lay := (by simp [tbL]), tu_Wall_lay := TU _ _ (by simp [tbL]),
    P_Wall_blocks := (He.cT K ("Wall", some "blocks")).2, tb_Wall_blocks := TB_Wall_blocks, tm_Wall_blocks := (by simp [tbL]), tu_Wall_blocks := TU _ _ (by simp [tbL]),
    P_law := (He.cT K ("law", none)).2, tb_law := TB_law, tm_law := (by simp [tbL]), tu_law := TU _ _ (by simp [tbL]) }, rfl, rfl⟩
end K22
end
section
set_option Elab.async false
set_option linter.all false
set_option maxRecDepth 100000
set_option maxHeartbeats 4000000
namespace K22
open PySem PySem.Spec PyProof.Rows L2 S3
def fuel : Nat := 100000
noncomputable section
abbrev N_Row_init : List Str := ["self", "day", "kind", "deed", "many"]
theorem sc_Row_init : FnScope N_Row_init ["self", "day", "kind", "deed", "many"] (defScope s_Row_init) := ⟨rfl, rfl, rfl, by decide +kernel, rfl, by decide +kernel, by decide +kernel⟩
def m_Row_init : MS := mSeq (mIfS (mOr (mTest (mBin gLt (mVar 1) (mC (.int 0)))) (mOr (mTest (mBin (gIn true) (mVar 3) (mC c_DEEDS))) (mOr (mTest (mBin (gEq false) (mVar 2) (mC (.str "")))) (mOr (mTest (mBin (gIn false) (mC (.str " ")) (mVar 2))) (mOr (mTest (mBin (gIn false) (mC (.str "\n")) (mVar 2))) (mTest (mBin gLt (mVar 4) (mC (.int 1))))))))) (mRaiseE "BadText" (mCons (mC (.int 0)) (mNil))) (mSkip)) (mSeq (mFldSet "Row" "day" (mVar 0) (mVar 1)) (mSeq (mFldSet "Row" "kind" (mVar 0) (mVar 2)) (mSeq (mFldSet "Row" "deed" (mVar 0) (mVar 3)) (mFldSet "Row" "many" (mVar 0) (mVar 4)))))
def f_Row_init : Fn := defSem 5 5 m_Row_init
theorem ok_Row_init {B : Bx} {w : World} {base : Heap} (T : TX B base) : FnP B PP w base 3 T.a_Row_init T.fd_Row_init ["self", "day", "kind", "deed", "many"] f_Row_init := by
  refine fn_bodyC T.fu_Row_init sc_Row_init fun A outer s H E hr => ?_
  have hu := hu_of64 hr
  refine sss_cons ?_ ?_
  · refine ss_if (st_w (sw_or (st_cmp (op_gLt hu) (sv (i := 1)) (se_int)) (sw_or (st_cmp (op_gNotIn hu) (sv (i := 3)) (se_const T.con_DEEDS)) (sw_or (st_cmp (op_gEq hu) (sv (i := 2)) (se_str)) (sw_or (st_cmp (op_gIn hu) (se_str) (sv (i := 2))) (sw_or (st_cmp (op_gIn hu) (se_str) (sv (i := 2))) (sw_or1 (st_cmp (op_gLt hu) (sv (i := 4)) (se_int))))))))) ?_ ?_
    · exact sss_one (ss_raiseI0 T.mgc_BadText T.ini_BadText.oex T.ini_BadText.iC T.ini_BadText.tI (ini_BadText (k := 0) T) (hr.mono (by decide)) (bi_BadText T) takesB rfl (sa_cons (se_int) (sa_nil)))
    · exact sss_nil
  refine sss_cons (ss_fld T.cls_Row (by simp) (sv (i := 0)) (sv (i := 1))) ?_
  refine sss_cons (ss_fld T.cls_Row (by simp) (sv (i := 0)) (sv (i := 2))) ?_
  refine sss_cons (ss_fld T.cls_Row (by simp) (sv (i := 0)) (sv (i := 3))) ?_
  exact sss_one (ss_fld T.cls_Row (by simp) (sv (i := 0)) (sv (i := 4)))
abbrev F_Row_init : Fn := f_Row_init
theorem OK_Row_init {B : Bx} {w : World} {base : Heap} (T : TX B base) : FnP B PP w base 3 T.a_Row_init T.fd_Row_init ["self", "day", "kind", "deed", "many"] F_Row_init := ok_Row_init T
noncomputable abbrev I_Row : List AV → AH → Rs (List (Str × AV)) := cleanI "Row" F_Row_init
theorem IO_Row : InitOk "Row" F_Row_init I_Row := init_clean _ _
abbrev N_Row_said : List Str := ["self"]
theorem sc_Row_said : FnScope N_Row_said ["self"] (defScope s_Row_said) := ⟨rfl, rfl, rfl, by decide +kernel, rfl, by decide +kernel, by decide +kernel⟩
def m_Row_said : MS := mRet (mFn (gJoin " ") (mCons (mFn gLst (mCons (mFn gStr (mCons (mUn (gFld "Row" "day") (mVar 0)) (mNil))) (mCons (mUn (gFld "Row" "kind") (mVar 0)) (mCons (mUn (gFld "Row" "deed") (mVar 0)) (mCons (mFn gStr (mCons (mUn (gFld "Row" "many") (mVar 0)) (mNil))) (mNil)))))) (mNil)))
def f_Row_said : Fn := defSem 1 1 m_Row_said
theorem ok_Row_said {B : Bx} {w : World} {base : Heap} (T : TX B base) : FnP B PP w base 2 T.a_Row_said T.fd_Row_said ["self"] f_Row_said := by
  refine fn_bodyC T.fu_Row_said sc_Row_said fun A outer s H E hr => ?_
  have hu := hu_of64 hr
  exact sss_one (ss_ret (se_join (se_lst (sa_cons (se_callTy cr_gStr rfl T.no_str rfl (sa_cons (se_fld T.cls_Row (by simp) (sv (i := 0))) (sa_nil))) (sa_cons (se_fld T.cls_Row (by simp) (sv (i := 0))) (sa_cons (se_fld T.cls_Row (by simp) (sv (i := 0))) (sa_cons (se_callTy cr_gStr rfl T.no_str rfl (sa_cons (se_fld T.cls_Row (by simp) (sv (i := 0))) (sa_nil))) (sa_nil))))))))
abbrev F_Row_said : Fn := f_Row_said
theorem OK_Row_said {B : Bx} {w : World} {base : Heap} (T : TX B base) : FnP B PP w base 2 T.a_Row_said T.fd_Row_said ["self"] F_Row_said := ok_Row_said T
abbrev N_read_row : List Str := ["text", "words", "one", "found", "sign"]
theorem sc_read_row : FnScope N_read_row ["text"] (defScope s_read_row) := ⟨rfl, rfl, rfl, by decide +kernel, rfl, by decide +kernel, by decide +kernel⟩
theorem nd0_read_row : (".0" : Str) ∉ N_read_row := by decide +kernel
abbrev B_read_row_0 : MS := mSeq (mIfS (mOr (mNot (mTest (mChain gLe gLe (mC (.int 1)) (mFn gLen (mCons (mVar 2) (mNil))) (mC (.int 4))))) (mTest (mGenN gAny (mSeqS (mVar 2)) 4 ((fun _ _ => some true)) (qBin (gInQS true) (qVar 4) (qC (.str "0123456789")))))) (mRaiseE "BadText" (mCons (mC (.int 0)) (mNil))) (mSkip)) (mForget [2])
def m_read_row : MS := mSeq (mAsg (mBM tyS gSplitS (mVar 0) (mCons (mC (.str " ")) (mNil))) (tName 1)) (mSeq (mIfS (mTest (mBin (gEq true) (mFn gLen (mCons (mVar 1) (mNil))) (mC (.int 4)))) (mRaiseE "BadText" (mCons (mC (.int 0)) (mNil))) (mSkip)) (mSeq (mForget [2]) (mSeq (mFor (mSqT (mFn gTup (mCons (mBin gIx (mVar 1) (mC (.int 0))) (mCons (mBin gIx (mVar 1) (mC (.int 3))) (mNil))))) (tName 2) (B_read_row_0)) (mSeq (mAsg (mMakeF "Row" I_Row (mCons (mFn gIntS (mCons (mBin gIx (mVar 1) (mC (.int 0))) (mNil))) (mCons (mBin gIx (mVar 1) (mC (.int 1))) (mCons (mBin gIx (mVar 1) (mC (.int 2))) (mCons (mFn gIntS (mCons (mBin gIx (mVar 1) (mC (.int 3))) (mNil))) (mNil)))))) (tName 3)) (mSeq (mIfS (mTest (mBin (gEq true) (mMeth "Row" "said" F_Row_said (mVar 3) mNil) (mVar 0))) (mRaiseE "BadText" (mCons (mC (.int 0)) (mNil))) (mSkip)) (mRet (mVar 3)))))))
def f_read_row : Fn := defSem 5 1 m_read_row
theorem ok_read_row {B : Bx} {w : World} {base : Heap} (T : TX B base) : FnP B PP w base 5 T.a_read_row T.fd_read_row ["text"] f_read_row := by
  refine fn_bodyC T.fu_read_row sc_read_row fun A outer s H E hr => ?_
  have hu := hu_of64 hr
  refine sss_cons (ss_nm (i := 1) sc_read_row.nd (se_bm ty_str PySem.F.plainAttrs_str PySem.F.slot_str_split PySem.F.type_str_split mt_gSplitS (sv (i := 0)) (sa_cons (se_str) (sa_nil)))) ?_
  refine sss_cons ?_ ?_
  · refine ss_if (st_cmp (op_gNe hu) (se_callB cr_gLen rfl T.no_len rfl (sa_cons (sv (i := 1)) (sa_nil))) (se_int)) ?_ ?_
    · exact sss_one (ss_raiseI0 T.mgc_BadText T.ini_BadText.oex T.ini_BadText.iC T.ini_BadText.tI (ini_BadText (k := 0) T) (hr.mono (by decide)) (bi_BadText T) takesB rfl (sa_cons (se_int) (sa_nil)))
    · exact sss_nil
  refine sss_forget [2] ?_
  refine sss_cons ?_ ?_
  · refine ss_for passB rfl (si_tup (se_tup (sa_cons (se_ix hu (sv (i := 1)) (se_int)) (sa_cons (se_ix hu (sv (i := 1)) (se_int)) (sa_nil))))) (sg_nm (i := 2) sc_read_row.nd) ?_
    · refine sss_cons ?_ ?_
      · refine ss_if (st_w (sw_or (st_not (st_chain (op_gLe hu) (op_gLe hu) (se_int) (se_callB cr_gLen rfl T.no_len rfl (sa_cons (sv (i := 2)) (sa_nil))) (se_int))) (sw_or1 (st_val (se_genN (i := 4) eats_any rfl T.no_any rfl ⟨T.tb_read_row, rfl, T.tm_read_row, T.tu_read_row⟩ hr (gsc_by (by rfl)) sc_read_row.nd nd0_read_row (gsn_str (sv (i := 2))) (qts_nil) (sq_cmp oq_gNotInS (sq_var (i := 4)) (sq_str))))))) ?_ ?_
        · exact sss_one (ss_raiseI0 T.mgc_BadText T.ini_BadText.oex T.ini_BadText.iC T.ini_BadText.tI (ini_BadText (k := 0) T) (hr.mono (by decide)) (bi_BadText T) takesB rfl (sa_cons (se_int) (sa_nil)))
        · exact sss_nil
      exact sss_forgets [2]
  refine sss_cons (ss_nm (i := 3) sc_read_row.nd (se_makeF IO_Row T.mk_Row T.mgc_Row (OK_Row_init T) (hr.mono (by decide)) rfl T.mgc_Row T.bi_Row_init takesB (sa_cons (se_callTy cr_gIntS rfl T.no_int rfl (sa_cons (se_ix hu (sv (i := 1)) (se_int)) (sa_nil))) (sa_cons (se_ix hu (sv (i := 1)) (se_int)) (sa_cons (se_ix hu (sv (i := 1)) (se_int)) (sa_cons (se_callTy cr_gIntS rfl T.no_int rfl (sa_cons (se_ix hu (sv (i := 1)) (se_int)) (sa_nil))) (sa_nil))))))) ?_
  refine sss_cons ?_ ?_
  · refine ss_if (st_cmp (op_gNe hu) (se_meth0 (sv (i := 3)) T.mgc_Row (T.cls_Row.cls _ T.mgc_Row) T.me_Row_said (OK_Row_said T) (hr.mono (by decide)) T.bi_Row_said takesB) (sv (i := 0))) ?_ ?_
    · exact sss_one (ss_raiseI0 T.mgc_BadText T.ini_BadText.oex T.ini_BadText.iC T.ini_BadText.tI (ini_BadText (k := 0) T) (hr.mono (by decide)) (bi_BadText T) takesB rfl (sa_cons (se_int) (sa_nil)))
    · exact sss_nil
  exact sss_one (ss_ret (sv (i := 3)))
abbrev F_read_row : Fn := f_read_row
theorem OK_read_row {B : Bx} {w : World} {base : Heap} (T : TX B base) : FnP B PP w base 5 T.a_read_row T.fd_read_row ["text"] F_read_row := ok_read_row T
abbrev N_Desk_init : List Str := ["self"]
theorem sc_Desk_init : FnScope N_Desk_init ["self"] (defScope s_Desk_init) := ⟨rfl, rfl, rfl, by decide +kernel, rfl, by decide +kernel, by decide +kernel⟩
def m_Desk_init : MS := mSeq (mFldSet "Desk" "text" (mVar 0) (mC (.str "1 grit bought 9\n2 grit carried 6\n2 salt bought 4\n3 grit lent 1"))) (mSeq (mFldSet "Desk" "deeds" (mVar 0) (mLstM (mNil))) (mFldSet "Desk" "undone" (mVar 0) (mLstM (mNil))))
def f_Desk_init : Fn := defSem 1 1 m_Desk_init
theorem ok_Desk_init {B : Bx} {w : World} {base : Heap} (T : TX B base) : FnP B PP w base 2 T.a_Desk_init T.fd_Desk_init ["self"] f_Desk_init := by
  refine fn_bodyC T.fu_Desk_init sc_Desk_init fun A outer s H E hr => ?_
  have hu := hu_of64 hr
  refine sss_cons (ss_fld T.cls_Desk (by simp) (sv (i := 0)) (se_str)) ?_
  refine sss_cons (ss_fld T.cls_Desk (by simp) (sv (i := 0)) (se_lstM (sa_nil))) ?_
  exact sss_one (ss_fld T.cls_Desk (by simp) (sv (i := 0)) (se_lstM (sa_nil)))
abbrev F_Desk_init : Fn := f_Desk_init
theorem OK_Desk_init {B : Bx} {w : World} {base : Heap} (T : TX B base) : FnP B PP w base 2 T.a_Desk_init T.fd_Desk_init ["self"] F_Desk_init := ok_Desk_init T
abbrev N_Wall_init : List Str := ["self", "wide"]
theorem sc_Wall_init : FnScope N_Wall_init ["self", "wide"] (defScope s_Wall_init) := ⟨rfl, rfl, rfl, by decide +kernel, rfl, by decide +kernel, by decide +kernel⟩
def m_Wall_init : MS := mSeq (mIfS (mTest (mBin gLt (mVar 1) (mC (.int 1)))) (mRaise "BadPlan") (mSkip)) (mSeq (mFldSet "Wall" "wide" (mVar 0) (mVar 1)) (mFldSet "Wall" "courses" (mVar 0) (mFn gTup (mNil))))
def f_Wall_init : Fn := defSem 2 2 m_Wall_init
theorem ok_Wall_init {B : Bx} {w : World} {base : Heap} (T : TX B base) : FnP B PP w base 2 T.a_Wall_init T.fd_Wall_init ["self", "wide"] f_Wall_init := by
  refine fn_bodyC T.fu_Wall_init sc_Wall_init fun A outer s H E hr => ?_
  have hu := hu_of64 hr
  refine sss_cons ?_ ?_
  · refine ss_if (st_cmp (op_gLt hu) (sv (i := 1)) (se_int)) ?_ ?_
    · exact sss_one (ss_raiseX T.ex_BadPlan takesB rfl)
    · exact sss_nil
  refine sss_cons (ss_fld T.cls_Wall (by simp) (sv (i := 0)) (sv (i := 1))) ?_
  exact sss_one (ss_fld T.cls_Wall (by simp) (sv (i := 0)) (se_tup (sa_nil)))
abbrev F_Wall_init : Fn := f_Wall_init
theorem OK_Wall_init {B : Bx} {w : World} {base : Heap} (T : TX B base) : FnP B PP w base 2 T.a_Wall_init T.fd_Wall_init ["self", "wide"] F_Wall_init := ok_Wall_init T
abbrev N_Eave_init : List Str := ["self", "long"]
theorem sc_Eave_init : FnScope N_Eave_init ["self", "long"] (defScope s_Eave_init) := ⟨rfl, rfl, rfl, by decide +kernel, rfl, by decide +kernel, by decide +kernel⟩
def m_Eave_init : MS := mSeq (mIfS (mTest (mBin gLt (mVar 1) (mC (.int 1)))) (mRaise "BadPlan") (mSkip)) (mSeq (mFldSet "Eave" "long" (mVar 0) (mVar 1)) (mFldSet "Eave" "icicles" (mVar 0) (mC (.dK []))))
def f_Eave_init : Fn := defSem 2 2 m_Eave_init
theorem ok_Eave_init {B : Bx} {w : World} {base : Heap} (T : TX B base) : FnP B PP w base 2 T.a_Eave_init T.fd_Eave_init ["self", "long"] f_Eave_init := by
  refine fn_bodyC T.fu_Eave_init sc_Eave_init fun A outer s H E hr => ?_
  have hu := hu_of64 hr
  refine sss_cons ?_ ?_
  · refine ss_if (st_cmp (op_gLt hu) (sv (i := 1)) (se_int)) ?_ ?_
    · exact sss_one (ss_raiseX T.ex_BadPlan takesB rfl)
    · exact sss_nil
  refine sss_cons (ss_fld T.cls_Eave (by simp) (sv (i := 0)) (sv (i := 1))) ?_
  exact sss_one (ss_fld T.cls_Eave (by simp) (sv (i := 0)) (se_dnewKF))
abbrev F_Eave_init : Fn := f_Eave_init
theorem OK_Eave_init {B : Bx} {w : World} {base : Heap} (T : TX B base) : FnP B PP w base 2 T.a_Eave_init T.fd_Eave_init ["self", "long"] F_Eave_init := ok_Eave_init T
noncomputable abbrev I_Eave : List AV → AH → Rs (List (Str × AV)) := cleanI "Eave" F_Eave_init
theorem IO_Eave : InitOk "Eave" F_Eave_init I_Eave := init_clean _ _
abbrev N_Sledge_init : List Str := ["self", "bears"]
theorem sc_Sledge_init : FnScope N_Sledge_init ["self", "bears"] (defScope s_Sledge_init) := ⟨rfl, rfl, rfl, by decide +kernel, rfl, by decide +kernel, by decide +kernel⟩
def m_Sledge_init : MS := mSeq (mIfS (mTest (mBin gLt (mVar 1) (mC (.int 1)))) (mRaise "BadPlan") (mSkip)) (mSeq (mFldSet "Sledge" "bears" (mVar 0) (mVar 1)) (mSeq (mFldSet "Sledge" "load" (mVar 0) (mDNewK)) (mFldSet "Sledge" "runner" (mVar 0) (mC (.int 10)))))
def f_Sledge_init : Fn := defSem 2 2 m_Sledge_init
theorem ok_Sledge_init {B : Bx} {w : World} {base : Heap} (T : TX B base) : FnP B PP w base 2 T.a_Sledge_init T.fd_Sledge_init ["self", "bears"] f_Sledge_init := by
  refine fn_bodyC T.fu_Sledge_init sc_Sledge_init fun A outer s H E hr => ?_
  have hu := hu_of64 hr
  refine sss_cons ?_ ?_
  · refine ss_if (st_cmp (op_gLt hu) (sv (i := 1)) (se_int)) ?_ ?_
    · exact sss_one (ss_raiseX T.ex_BadPlan takesB rfl)
    · exact sss_nil
  refine sss_cons (ss_fld T.cls_Sledge (by simp) (sv (i := 0)) (sv (i := 1))) ?_
  refine sss_cons (ss_fld T.cls_Sledge (by simp) (sv (i := 0)) (se_dnewK)) ?_
  exact sss_one (ss_fld T.cls_Sledge (by simp) (sv (i := 0)) (se_int))
abbrev F_Sledge_init : Fn := f_Sledge_init
theorem OK_Sledge_init {B : Bx} {w : World} {base : Heap} (T : TX B base) : FnP B PP w base 2 T.a_Sledge_init T.fd_Sledge_init ["self", "bears"] F_Sledge_init := ok_Sledge_init T
abbrev N_ice_bears : List Str := ["thick"]
theorem sc_ice_bears : FnScope N_ice_bears ["thick"] (defScope s_ice_bears) := ⟨rfl, rfl, rfl, by decide +kernel, rfl, by decide +kernel, by decide +kernel⟩
def m_ice_bears : MS := mSeq (mIfS (mTest (mBin gLt (mVar 0) (mC (.int 0)))) (mRaise "BadSize") (mSkip)) (mRet (mBin gMul (mBin gMul (mC (.int 4)) (mVar 0)) (mVar 0)))
def f_ice_bears : Fn := defSem 1 1 m_ice_bears
theorem ok_ice_bears {B : Bx} {w : World} {base : Heap} (T : TX B base) : FnP B PP w base 2 T.a_ice_bears T.fd_ice_bears ["thick"] f_ice_bears := by
  refine fn_bodyC T.fu_ice_bears sc_ice_bears fun A outer s H E hr => ?_
  have hu := hu_of64 hr
  refine sss_cons ?_ ?_
  · refine ss_if (st_cmp (op_gLt hu) (sv (i := 0)) (se_int)) ?_ ?_
    · exact sss_one (ss_raiseX T.ex_BadSize takesB rfl)
    · exact sss_nil
  exact sss_one (ss_ret (se_op (op_gMul) (se_op (op_gMul) (se_int) (sv (i := 0))) (sv (i := 0))))
abbrev F_ice_bears : Fn := f_ice_bears
theorem OK_ice_bears {B : Bx} {w : World} {base : Heap} (T : TX B base) : FnP B PP w base 2 T.a_ice_bears T.fd_ice_bears ["thick"] F_ice_bears := ok_ice_bears T
abbrev N_Desk_undo : List Str := ["self", "deed"]
theorem sc_Desk_undo : FnScope N_Desk_undo ["self"] (defScope s_Desk_undo) := ⟨rfl, rfl, rfl, by decide +kernel, rfl, by decide +kernel, by decide +kernel⟩
def m_Desk_undo : MS := mSeq (mIfS (mTest (mBin (gEq false) (mUn (gFld "Desk" "deeds") (mVar 0)) (mFn gLst (mNil)))) (mRaise "BadDeed") (mSkip)) (mSeq (mAsg (mBM tyL gPop (mUn (gFld "Desk" "deeds") (mVar 0)) mNil) (tName 1)) (mSeq (mExprS (mBM tyL gAppend (mUn (gFld "Desk" "undone") (mVar 0)) (mCons (mVar 1) (mNil)))) (mFldSet "Desk" "text" (mVar 0) (mBin gIx (mVar 1) (mC (.int 0))))))
def f_Desk_undo : Fn := defSem 2 1 m_Desk_undo
theorem ok_Desk_undo {B : Bx} {w : World} {base : Heap} (T : TX B base) : FnP B PP w base 2 T.a_Desk_undo T.fd_Desk_undo ["self"] f_Desk_undo := by
  refine fn_bodyC T.fu_Desk_undo sc_Desk_undo fun A outer s H E hr => ?_
  have hu := hu_of64 hr
  refine sss_cons ?_ ?_
  · refine ss_if (st_cmp (op_gEq hu) (se_fld T.cls_Desk (by simp) (sv (i := 0))) (se_lst (sa_nil))) ?_ ?_
    · exact sss_one (ss_raiseX T.ex_BadDeed takesB rfl)
    · exact sss_nil
  refine sss_cons (ss_nm (i := 1) sc_Desk_undo.nd (se_bm0 ty_list PySem.F.plainAttrs_list PySem.F.slot_list_pop PySem.F.type_list_pop mt_gPop (se_fld T.cls_Desk (by simp) (sv (i := 0))))) ?_
  refine sss_cons (ss_expr (se_bm ty_list PySem.F.plainAttrs_list PySem.F.slot_list_append PySem.F.type_list_append mt_gAppend (se_fld T.cls_Desk (by simp) (sv (i := 0))) (sa_cons (sv (i := 1)) (sa_nil)))) ?_
  exact sss_one (ss_fld T.cls_Desk (by simp) (sv (i := 0)) (se_ix hu (sv (i := 1)) (se_int)))
abbrev F_Desk_undo : Fn := f_Desk_undo
theorem OK_Desk_undo {B : Bx} {w : World} {base : Heap} (T : TX B base) : FnP B PP w base 2 T.a_Desk_undo T.fd_Desk_undo ["self"] F_Desk_undo := ok_Desk_undo T
abbrev N_Wall_held : List Str := ["self", "course", "place", "long", "below", "parts", "at", "size", "part"]
theorem sc_Wall_held : FnScope N_Wall_held ["self", "course", "place", "long"] (defScope s_Wall_held) := ⟨rfl, rfl, rfl, by decide +kernel, rfl, by decide +kernel, by decide +kernel⟩
theorem nd0_Wall_held : (".0" : Str) ∉ N_Wall_held := by decide +kernel
def m_Wall_held : MS := mSeq (mIfS (mTest (mBin (gEq false) (mVar 1) (mC (.int 0)))) (mRet (mVar 3)) (mSkip)) (mSeq (mAsg (mBin gIx (mUn (gFld "Wall" "courses") (mVar 0)) (mBin gSub (mVar 1) (mC (.int 1)))) (tName 4)) (mSeq (mAsg (mLc (mSqT (mVar 4)) (tTupT 2 (tMore (tName 6) (tMore (tName 7) (tNone)))) (mYes) (mBin gSub (mFn gMin (mCons (mBin gAdd (mVar 2) (mVar 3)) (mCons (mBin gAdd (mVar 6) (mVar 7)) (mNil)))) (mFn gMax (mCons (mVar 2) (mCons (mVar 6) (mNil))))) [6, 7]) (tName 5)) (mRet (mGenN gSumI (mSeqI (mVar 5)) 8 (qTest (qBin gGtQ (qVar 8) (qC (.int 0)))) (qVar 8)))))
def f_Wall_held : Fn := defSem 9 4 m_Wall_held
theorem ok_Wall_held {B : Bx} {w : World} {base : Heap} (T : TX B base) : FnP B PP w base 2 T.a_Wall_held T.fd_Wall_held ["self", "course", "place", "long"] f_Wall_held := by
  refine fn_bodyC T.fu_Wall_held sc_Wall_held fun A outer s H E hr => ?_
  have hu := hu_of64 hr
  refine sss_cons ?_ ?_
  · refine ss_if (st_cmp (op_gEq hu) (sv (i := 1)) (se_int)) ?_ ?_
    · exact sss_one (ss_ret (sv (i := 3)))
    · exact sss_nil
  refine sss_cons (ss_nm (i := 4) sc_Wall_held.nd (se_ix hu (se_fld T.cls_Wall (by simp) (sv (i := 0))) (se_op (op_gSub) (sv (i := 1)) (se_int)))) ?_
  refine sss_cons (ss_setLc (i := 5) rfl sc_Wall_held.nd rfl rfl (own := [("at", 6), ("size", 7)]) (blkOk_by (by rfl)) (si_tup (sv (i := 4))) (fun _ _ _ _ _ => sg_tup rfl (sgs_cons (sg_nm (i := 6) sc_Wall_held.nd) (sgs_cons (sg_nm (i := 7) sc_Wall_held.nd) (sgs_nil)))) (fun _ _ _ _ _ => sts_nil) (fun _ _ _ _ _ => se_op (op_gSub) (se_callB (cr_gMin rfl hu) rfl T.no_min rfl (sa_cons (se_op (op_gAdd) (sv (i := 2)) (sv (i := 3))) (sa_cons (se_op (op_gAdd) (sv (i := 6)) (sv (i := 7))) (sa_nil)))) (se_callB (cr_gMax rfl hu) rfl T.no_max rfl (sa_cons (sv (i := 2)) (sa_cons (sv (i := 6)) (sa_nil))))) (by decide) rfl) ?_
  exact sss_one (ss_ret (se_genN (i := 8) eats_sum rfl T.no_sum rfl ⟨T.tb_Wall_held, rfl, T.tm_Wall_held, T.tu_Wall_held⟩ hr (gsc_by (by rfl)) sc_Wall_held.nd nd0_Wall_held (gsn_seq (sv (i := 5))) (qts_one (sqt_cmp oq_gGt (sq_var (i := 8)) (sq_int))) (sq_var (i := 8))))
abbrev F_Wall_held : Fn := f_Wall_held
theorem OK_Wall_held {B : Bx} {w : World} {base : Heap} (T : TX B base) : FnP B PP w base 2 T.a_Wall_held T.fd_Wall_held ["self", "course", "place", "long"] F_Wall_held := ok_Wall_held T
abbrev N_Wall_lay : List Str := ["self", "course", "place", "long", "row", "fresh", "at", "size"]
theorem sc_Wall_lay : FnScope N_Wall_lay ["self", "course", "place", "long"] (defScope s_Wall_lay) := ⟨rfl, rfl, rfl, by decide +kernel, rfl, by decide +kernel, by decide +kernel⟩
theorem nd0_Wall_lay : (".0" : Str) ∉ N_Wall_lay := by decide +kernel
def m_Wall_lay : MS := mSeq (mIfS (mNot (mTest (mChain gLe gLe (mC (.int 0)) (mVar 1) (mFn gLen (mCons (mUn (gFld "Wall" "courses") (mVar 0)) (mNil)))))) (mRaise "NoSuch") (mSkip)) (mSeq (mIfS (mTest (mBin gLt (mVar 3) (mC (.int 1)))) (mRaise "BadSize") (mSkip)) (mSeq (mAsg (mIf (mTest (mBin gLt (mVar 1) (mFn gLen (mCons (mUn (gFld "Wall" "courses") (mVar 0)) (mNil))))) (mBin gIx (mUn (gFld "Wall" "courses") (mVar 0)) (mVar 1)) (mFn gTup (mNil))) (tName 4)) (mSeq (mIfS (mOr (mTest (mBin gLt (mVar 2) (mC (.int 0)))) (mTest (mBin gGt (mBin gAdd (mVar 2) (mVar 3)) (mUn (gFld "Wall" "wide") (mVar 0))))) (mRaise "NoRoom") (mSkip)) (mSeq (mIfS (mTest (mGenU gAny (mSeqP (mVar 4)) 6 7 ((fun _ _ => some true)) (qAndE (qBin gLtQ (qVar 2) (qBin gAddQ (qVar 6) (qVar 7))) (qBin gLtQ (qVar 6) (qBin gAddQ (qVar 2) (qVar 3)))))) (mRaise "NoRoom") (mSkip)) (mSeq (mIfS (mTest (mBin gLt (mBin gMul (mC (.int 2)) (mMeth "Wall" "held" F_Wall_held (mVar 0) (mCons (mVar 1) (mCons (mVar 2) (mCons (mVar 3) (mNil)))))) (mVar 3))) (mRaise "Breaks") (mSkip)) (mSeq (mAsg (mFn gTuple (mCons (mFn gSorted (mCons (mBin gAdd (mVar 4) (mFn gTup (mCons (mFn gTup (mCons (mVar 2) (mCons (mVar 3) (mNil)))) (mNil)))) (mNil))) (mNil))) (tName 5)) (mFldSet "Wall" "courses" (mVar 0) (mBin gAdd (mBin gAdd (mSl (mUn (gFld "Wall" "courses") (mVar 0)) (mNoPart) (mPart (mVar 1))) (mFn gTup (mCons (mVar 5) (mNil)))) (mSl (mUn (gFld "Wall" "courses") (mVar 0)) (mPart (mBin gAdd (mVar 1) (mC (.int 1)))) (mNoPart))))))))))
def f_Wall_lay : Fn := defSem 8 4 m_Wall_lay
theorem ok_Wall_lay {B : Bx} {w : World} {base : Heap} (T : TX B base) : FnP B PP w base 3 T.a_Wall_lay T.fd_Wall_lay ["self", "course", "place", "long"] f_Wall_lay := by
  refine fn_bodyC T.fu_Wall_lay sc_Wall_lay fun A outer s H E hr => ?_
  have hu := hu_of64 hr
  refine sss_cons ?_ ?_
  · refine ss_if (st_not (st_chain (op_gLe hu) (op_gLe hu) (se_int) (sv (i := 1)) (se_callB cr_gLen rfl T.no_len rfl (sa_cons (se_fld T.cls_Wall (by simp) (sv (i := 0))) (sa_nil))))) ?_ ?_
    · exact sss_one (ss_raiseX T.ex_NoSuch takesB rfl)
    · exact sss_nil
  refine sss_cons ?_ ?_
  · refine ss_if (st_cmp (op_gLt hu) (sv (i := 3)) (se_int)) ?_ ?_
    · exact sss_one (ss_raiseX T.ex_BadSize takesB rfl)
    · exact sss_nil
  refine sss_cons (ss_nm (i := 4) sc_Wall_lay.nd (se_if (st_cmp (op_gLt hu) (sv (i := 1)) (se_callB cr_gLen rfl T.no_len rfl (sa_cons (se_fld T.cls_Wall (by simp) (sv (i := 0))) (sa_nil)))) (se_ix hu (se_fld T.cls_Wall (by simp) (sv (i := 0))) (sv (i := 1))) (se_tup (sa_nil)))) ?_
  refine sss_cons ?_ ?_
  · refine ss_if (st_w (sw_or (st_cmp (op_gLt hu) (sv (i := 2)) (se_int)) (sw_or1 (st_cmp (op_gGt hu) (se_op (op_gAdd) (sv (i := 2)) (sv (i := 3))) (se_fld T.cls_Wall (by simp) (sv (i := 0))))))) ?_ ?_
    · exact sss_one (ss_raiseX T.ex_NoRoom takesB rfl)
    · exact sss_nil
  refine sss_cons ?_ ?_
  · refine ss_if (st_val (se_genU (i := 6) (i' := 7) eats_any rfl T.no_any rfl ⟨T.tb_Wall_lay, rfl, T.tm_Wall_lay, T.tu_Wall_lay⟩ hr (gsc_by (by rfl)) sc_Wall_lay.nd nd0_Wall_lay (gsu_seq (sv (i := 4))) (qts_nil) (sq_and (sq_cmp oq_gLt (sq_var (i := 2)) (sq_bin oq_gAdd (sq_var (i := 6)) (sq_var (i := 7)))) (sq_one (sq_cmp oq_gLt (sq_var (i := 6)) (sq_bin oq_gAdd (sq_var (i := 2)) (sq_var (i := 3)))))))) ?_ ?_
    · exact sss_one (ss_raiseX T.ex_NoRoom takesB rfl)
    · exact sss_nil
  refine sss_cons ?_ ?_
  · refine ss_if (st_cmp (op_gLt hu) (se_op (op_gMul) (se_int) (se_meth (sv (i := 0)) T.mgc_Wall (T.cls_Wall.cls _ T.mgc_Wall) T.me_Wall_held (OK_Wall_held T) (hr.mono (by decide)) T.bi_Wall_held takesB (sa_cons (sv (i := 1)) (sa_cons (sv (i := 2)) (sa_cons (sv (i := 3)) (sa_nil)))))) (sv (i := 3))) ?_ ?_
    · exact sss_one (ss_raiseX T.ex_Breaks takesB rfl)
    · exact sss_nil
  refine sss_cons (ss_nm (i := 5) sc_Wall_lay.nd (se_callTy cr_gTuple rfl T.no_tuple rfl (sa_cons (se_callB (cr_gSorted hu) rfl T.no_sorted rfl (sa_cons (se_op (op_gAdd) (sv (i := 4)) (se_tup (sa_cons (se_tup (sa_cons (sv (i := 2)) (sa_cons (sv (i := 3)) (sa_nil)))) (sa_nil)))) (sa_nil))) (sa_nil)))) ?_
  exact sss_one (ss_fld T.cls_Wall (by simp) (sv (i := 0)) (se_op (op_gAdd) (se_op (op_gAdd) (se_slice (se_fld T.cls_Wall (by simp) (sv (i := 0))) (so_none) (so_some (sv (i := 1)))) (se_tup (sa_cons (sv (i := 5)) (sa_nil)))) (se_slice (se_fld T.cls_Wall (by simp) (sv (i := 0))) (so_some (se_op (op_gAdd) (sv (i := 1)) (se_int))) (so_none))))
abbrev F_Wall_lay : Fn := f_Wall_lay
theorem OK_Wall_lay {B : Bx} {w : World} {base : Heap} (T : TX B base) : FnP B PP w base 3 T.a_Wall_lay T.fd_Wall_lay ["self", "course", "place", "long"] F_Wall_lay := ok_Wall_lay T
abbrev N_drag_of : List Str := ["name", "one", "drag"]
theorem sc_drag_of : FnScope N_drag_of ["name"] (defScope s_drag_of) := ⟨rfl, rfl, rfl, by decide +kernel, rfl, by decide +kernel, by decide +kernel⟩
abbrev B_drag_of_0 : MS := mSeq (mIfS (mTest (mBin (gEq false) (mVar 1) (mVar 0))) (mRet (mVar 2)) (mSkip)) (mForget [1, 2])
def m_drag_of : MS := mSeq (mForget [1, 2]) (mSeq (mFor (mSqT (mC c_GROUNDS)) (tTupT 2 (tMore (tName 1) (tMore (tName 2) (tNone)))) (B_drag_of_0)) (mRaiseE "NoSuch" (mCons (mVar 0) (mNil))))
def f_drag_of : Fn := defSem 3 1 m_drag_of
theorem ok_drag_of {B : Bx} {w : World} {base : Heap} (T : TX B base) : FnP B PP w base 2 T.a_drag_of T.fd_drag_of ["name"] f_drag_of := by
  refine fn_bodyC T.fu_drag_of sc_drag_of fun A outer s H E hr => ?_
  have hu := hu_of64 hr
  refine sss_forget [1, 2] ?_
  refine sss_cons ?_ ?_
  · refine ss_for passB rfl (si_tup (se_const T.con_GROUNDS)) (sg_tup rfl (sgs_cons (sg_nm (i := 1) sc_drag_of.nd) (sgs_cons (sg_nm (i := 2) sc_drag_of.nd) (sgs_nil)))) ?_
    · refine sss_cons ?_ ?_
      · refine ss_if (st_cmp (op_gEq hu) (sv (i := 1)) (sv (i := 0))) ?_ ?_
        · exact sss_one (ss_ret (sv (i := 2)))
        · exact sss_nil
      exact sss_forgets [1, 2]
  exact sss_one (ss_raiseE T.ex_NoSuch takesB rfl (sa_cons (sv (i := 0)) (sa_nil)))
abbrev F_drag_of : Fn := f_drag_of
theorem OK_drag_of {B : Bx} {w : World} {base : Heap} (T : TX B base) : FnP B PP w base 2 T.a_drag_of T.fd_drag_of ["name"] F_drag_of := ok_drag_of T
abbrev N_Sledge_weight : List Str := ["self"]
theorem sc_Sledge_weight : FnScope N_Sledge_weight ["self"] (defScope s_Sledge_weight) := ⟨rfl, rfl, rfl, by decide +kernel, rfl, by decide +kernel, by decide +kernel⟩
def m_Sledge_weight : MS := mRet (mOfVals fSum (mUn (gFld "Sledge" "load") (mVar 0)))
def f_Sledge_weight : Fn := defSem 1 1 m_Sledge_weight
theorem ok_Sledge_weight {B : Bx} {w : World} {base : Heap} (T : TX B base) : FnP B PP w base 2 T.a_Sledge_weight T.fd_Sledge_weight ["self"] f_Sledge_weight := by
  refine fn_bodyC T.fu_Sledge_weight sc_Sledge_weight fun A outer s H E hr => ?_
  have hu := hu_of64 hr
  exact sss_one (ss_ret (se_valsB (cr_sumVals rfl) rfl T.no_sum rfl (se_fld T.cls_Sledge (by simp) (sv (i := 0)))))
abbrev F_Sledge_weight : Fn := f_Sledge_weight
theorem OK_Sledge_weight {B : Bx} {w : World} {base : Heap} (T : TX B base) : FnP B PP w base 2 T.a_Sledge_weight T.fd_Sledge_weight ["self"] F_Sledge_weight := ok_Sledge_weight T
abbrev N_Sledge_put : List Str := ["self", "name", "weight"]
theorem sc_Sledge_put : FnScope N_Sledge_put ["self", "name", "weight"] (defScope s_Sledge_put) := ⟨rfl, rfl, rfl, by decide +kernel, rfl, by decide +kernel, by decide +kernel⟩
def m_Sledge_put : MS := mSeq (mIfS (mOr (mTest (mBin (gEq false) (mVar 1) (mC (.str "")))) (mTest (mBin (gIn false) (mVar 1) (mUn (gFld "Sledge" "load") (mVar 0))))) (mRaise "BadDeed") (mSkip)) (mSeq (mIfS (mTest (mBin gLt (mVar 2) (mC (.int 1)))) (mRaise "BadSize") (mSkip)) (mSeq (mIfS (mTest (mBin gGt (mBin gAdd (mMeth "Sledge" "weight" F_Sledge_weight (mVar 0) mNil) (mVar 2)) (mUn (gFld "Sledge" "bears") (mVar 0)))) (mRaise "Breaks") (mSkip)) (mSubSet (mUn (gFld "Sledge" "load") (mVar 0)) (mVar 1) (mVar 2))))
def f_Sledge_put : Fn := defSem 3 3 m_Sledge_put
theorem ok_Sledge_put {B : Bx} {w : World} {base : Heap} (T : TX B base) : FnP B PP w base 3 T.a_Sledge_put T.fd_Sledge_put ["self", "name", "weight"] f_Sledge_put := by
  refine fn_bodyC T.fu_Sledge_put sc_Sledge_put fun A outer s H E hr => ?_
  have hu := hu_of64 hr
  refine sss_cons ?_ ?_
  · refine ss_if (st_w (sw_or (st_cmp (op_gEq hu) (sv (i := 1)) (se_str)) (sw_or1 (st_cmp (op_gIn hu) (sv (i := 1)) (se_fld T.cls_Sledge (by simp) (sv (i := 0))))))) ?_ ?_
    · exact sss_one (ss_raiseX T.ex_BadDeed takesB rfl)
    · exact sss_nil
  refine sss_cons ?_ ?_
  · refine ss_if (st_cmp (op_gLt hu) (sv (i := 2)) (se_int)) ?_ ?_
    · exact sss_one (ss_raiseX T.ex_BadSize takesB rfl)
    · exact sss_nil
  refine sss_cons ?_ ?_
  · refine ss_if (st_cmp (op_gGt hu) (se_op (op_gAdd) (se_meth0 (sv (i := 0)) T.mgc_Sledge (T.cls_Sledge.cls _ T.mgc_Sledge) T.me_Sledge_weight (OK_Sledge_weight T) (hr.mono (by decide)) T.bi_Sledge_weight takesB) (sv (i := 2))) (se_fld T.cls_Sledge (by simp) (sv (i := 0)))) ?_ ?_
    · exact sss_one (ss_raiseX T.ex_Breaks takesB rfl)
    · exact sss_nil
  exact sss_one (ss_sub hu (se_fld T.cls_Sledge (by simp) (sv (i := 0))) (sv (i := 1)) (sv (i := 2)))
abbrev F_Sledge_put : Fn := f_Sledge_put
theorem OK_Sledge_put {B : Bx} {w : World} {base : Heap} (T : TX B base) : FnP B PP w base 3 T.a_Sledge_put T.fd_Sledge_put ["self", "name", "weight"] F_Sledge_put := ok_Sledge_put T
abbrev N_wax_for : List Str := ["heat", "name", "least"]
theorem sc_wax_for : FnScope N_wax_for ["heat"] (defScope s_wax_for) := ⟨rfl, rfl, rfl, by decide +kernel, rfl, by decide +kernel, by decide +kernel⟩
abbrev B_wax_for_0 : MS := mSeq (mIfS (mTest (mBin gGe (mVar 0) (mVar 2))) (mRet (mVar 1)) (mSkip)) (mForget [1, 2])
def m_wax_for : MS := mSeq (mForget [1, 2]) (mSeq (mFor (mSqT (mC c_WAXES)) (tTupT 2 (tMore (tName 1) (tMore (tName 2) (tNone)))) (B_wax_for_0)) (mRaise "NoWay"))
def f_wax_for : Fn := defSem 3 1 m_wax_for
theorem ok_wax_for {B : Bx} {w : World} {base : Heap} (T : TX B base) : FnP B PP w base 2 T.a_wax_for T.fd_wax_for ["heat"] f_wax_for := by
  refine fn_bodyC T.fu_wax_for sc_wax_for fun A outer s H E hr => ?_
  have hu := hu_of64 hr
  refine sss_forget [1, 2] ?_
  refine sss_cons ?_ ?_
  · refine ss_for passB rfl (si_tup (se_const T.con_WAXES)) (sg_tup rfl (sgs_cons (sg_nm (i := 1) sc_wax_for.nd) (sgs_cons (sg_nm (i := 2) sc_wax_for.nd) (sgs_nil)))) ?_
    · refine sss_cons ?_ ?_
      · refine ss_if (st_cmp (op_gGe hu) (sv (i := 0)) (sv (i := 2))) ?_ ?_
        · exact sss_one (ss_ret (sv (i := 1)))
        · exact sss_nil
      exact sss_forgets [1, 2]
  exact sss_one (ss_raiseX T.ex_NoWay takesB rfl)
abbrev F_wax_for : Fn := f_wax_for
theorem OK_wax_for {B : Bx} {w : World} {base : Heap} (T : TX B base) : FnP B PP w base 2 T.a_wax_for T.fd_wax_for ["heat"] F_wax_for := ok_wax_for T
abbrev N__law_dice : List Str := ["cell"]
theorem sc__law_dice : FnScope N__law_dice ["cell"] (defScope s__law_dice) := ⟨rfl, rfl, rfl, by decide +kernel, rfl, by decide +kernel, by decide +kernel⟩
abbrev S__law_dice_0 : MS := mRet (mLstM (mCons (mFn gAbs (mCons (mVar 0) (mNil))) (mCons (mC (.int 0)) (mCons (mC (.int 2)) (mNil)))))
abbrev S__law_dice_1 : MS := mIfS (mTest (mChain gLt gLt (mBin gSub (mC (.int 0)) (mC (.int 10))) (mVar 0) (mC (.int 10)))) (S__law_dice_0) (mSkip)
abbrev S__law_dice_2 : MS := mRet (mLstM (mCons (mVar 0) (mCons (mBin gAdd (mC (.int 1)) (mBin gMod (mFn gInt (mCons (mVar 0) (mNil))) (mC (.int 1009)))) (mCons (mFn gInt (mCons (mBin gGe (mVar 0) (mBin gPow (mC (.int 10)) (mC (.int 18)))) (mNil))) (mNil)))))
def m__law_dice : MS := mSeq (S__law_dice_1) (S__law_dice_2)
def f__law_dice : Fn := defSem 1 1 m__law_dice
theorem ok__law_dice {B : Bx} {w : World} {base : Heap} (T : TX B base) : FnP B PP w base 2 T.a__law_dice T.fd__law_dice ["cell"] f__law_dice := by
  refine fn_bodyC T.fu__law_dice sc__law_dice fun A outer s H E hr => ?_
  have hu := hu_of64 hr
  refine sss_cons ?_ ?_
  · refine ss_if (st_chain (op_gLt hu) (op_gLt hu) (se_op (op_gSub) (se_int) (se_int)) (sv (i := 0)) (se_int)) ?_ ?_
    · exact sss_one (ss_ret (se_lstM (sa_cons (se_callB cr_gAbs rfl T.no_abs rfl (sa_cons (sv (i := 0)) (sa_nil))) (sa_cons (se_int) (sa_cons (se_int) (sa_nil))))))
    · exact sss_nil
  exact sss_one (ss_ret (se_lstM (sa_cons (sv (i := 0)) (sa_cons (se_op (op_gAdd) (se_int) (se_op (op_gMod) (se_callTy cr_gInt rfl T.no_int rfl (sa_cons (sv (i := 0)) (sa_nil))) (se_int))) (sa_cons (se_callTy cr_gInt rfl T.no_int rfl (sa_cons (se_cmp (op_gGe hu) (sv (i := 0)) (se_op (op_gPow) (se_int) (se_int))) (sa_nil))) (sa_nil))))))
abbrev F__law_dice : Fn := f__law_dice
theorem OK__law_dice {B : Bx} {w : World} {base : Heap} (T : TX B base) : FnP B PP w base 2 T.a__law_dice T.fd__law_dice ["cell"] F__law_dice := ok__law_dice T
abbrev N__law_roll : List Str := ["dice", "many", "found"]
theorem sc__law_roll : FnScope N__law_roll ["dice", "many"] (defScope s__law_roll) := ⟨rfl, rfl, rfl, by decide +kernel, rfl, by decide +kernel, by decide +kernel⟩
abbrev S__law_roll_0 : MS := mAsg (mBin gMod (mFn gInt (mCons (mBin gIx (mVar 0) (mC (.int 0))) (mNil))) (mVar 1)) (tName 2)
abbrev S__law_roll_1 : MS := mSubSet (mVar 0) (mC (.int 0)) (mBin gDiv (mBin gIx (mVar 0) (mC (.int 0))) (mVar 1))
abbrev S__law_roll_2 : MS := mIfS (mOr (mTest (mBin (gEq false) (mBin gIx (mVar 0) (mC (.int 2))) (mC (.int 2)))) (mAnd (mTest (mBin (gEq false) (mBin gIx (mVar 0) (mC (.int 2))) (mC (.int 1)))) (mTest (mBin gGt (mBin gIx (mVar 0) (mC (.int 0))) (mC (.int 0)))))) (mSeq (S__law_roll_0) (mSeq (S__law_roll_1) (mRet (mVar 2)))) (mSkip)
abbrev S__law_roll_3 : MS := mSubSet (mVar 0) (mC (.int 0)) (mBin gMod (mFn gInt (mCons (mBin gAdd (mBin gAdd (mBin gMul (mBin gIx (mVar 0) (mC (.int 0))) (mC (.int 48271))) (mBin gMul (mBin gIx (mVar 0) (mC (.int 1))) (mC (.int 69621)))) (mC (.int 11))) (mNil))) (mC (.int 2147483647)))
abbrev S__law_roll_4 : MS := mSubSet (mVar 0) (mC (.int 1)) (mBin gAdd (mBin gIx (mVar 0) (mC (.int 1))) (mC (.int 1)))
abbrev S__law_roll_5 : MS := mRet (mBin gMod (mFn gInt (mCons (mBin gAdd (mBin gDiv (mBin gIx (mVar 0) (mC (.int 0))) (mC (.int 7))) (mBin gIx (mVar 0) (mC (.int 0)))) (mNil))) (mVar 1))
def m__law_roll : MS := mSeq (S__law_roll_2) (mSeq (mSubSet (mVar 0) (mC (.int 2)) (mC (.int 0))) (mSeq (S__law_roll_3) (mSeq (S__law_roll_4) (S__law_roll_5))))
def f__law_roll : Fn := defSem 3 2 m__law_roll
theorem ok__law_roll {B : Bx} {w : World} {base : Heap} (T : TX B base) : FnP B PP w base 2 T.a__law_roll T.fd__law_roll ["dice", "many"] f__law_roll := by
  refine fn_bodyC T.fu__law_roll sc__law_roll fun A outer s H E hr => ?_
  have hu := hu_of64 hr
  refine sss_cons ?_ ?_
  · refine ss_if (st_w (sw_or (st_cmp (op_gEq hu) (se_ix hu (sv (i := 0)) (se_int)) (se_int)) (sw_or1 (st_w (sw_and (st_cmp (op_gEq hu) (se_ix hu (sv (i := 0)) (se_int)) (se_int)) (sw_and1 (st_cmp (op_gGt hu) (se_ix hu (sv (i := 0)) (se_int)) (se_int)))))))) ?_ ?_
    · refine sss_cons (ss_nm (i := 2) sc__law_roll.nd (se_op (op_gMod) (se_callTy cr_gInt rfl T.no_int rfl (sa_cons (se_ix hu (sv (i := 0)) (se_int)) (sa_nil))) (sv (i := 1)))) ?_
      refine sss_cons (ss_sub hu (sv (i := 0)) (se_int) (se_op (op_gDiv) (se_ix hu (sv (i := 0)) (se_int)) (sv (i := 1)))) ?_
      exact sss_one (ss_ret (sv (i := 2)))
    · exact sss_nil
  refine sss_cons (ss_sub hu (sv (i := 0)) (se_int) (se_int)) ?_
  refine sss_cons (ss_sub hu (sv (i := 0)) (se_int) (se_op (op_gMod) (se_callTy cr_gInt rfl T.no_int rfl (sa_cons (se_op (op_gAdd) (se_op (op_gAdd) (se_op (op_gMul) (se_ix hu (sv (i := 0)) (se_int)) (se_int)) (se_op (op_gMul) (se_ix hu (sv (i := 0)) (se_int)) (se_int))) (se_int)) (sa_nil))) (se_int))) ?_
  refine sss_cons (ss_sub hu (sv (i := 0)) (se_int) (se_op (op_gAdd) (se_ix hu (sv (i := 0)) (se_int)) (se_int))) ?_
  exact sss_one (ss_ret (se_op (op_gMod) (se_callTy cr_gInt rfl T.no_int rfl (sa_cons (se_op (op_gAdd) (se_op (op_gDiv) (se_ix hu (sv (i := 0)) (se_int)) (se_int)) (se_ix hu (sv (i := 0)) (se_int))) (sa_nil))) (sv (i := 1))))
abbrev F__law_roll : Fn := f__law_roll
theorem OK__law_roll {B : Bx} {w : World} {base : Heap} (T : TX B base) : FnP B PP w base 2 T.a__law_roll T.fd__law_roll ["dice", "many"] F__law_roll := ok__law_roll T
abbrev N__law_rounds : List Str := ["script", "most", "cells", "cell"]
theorem sc__law_rounds : FnScope N__law_rounds ["script", "most"] (defScope s__law_rounds) := ⟨rfl, rfl, rfl, by decide +kernel, rfl, by decide +kernel, by decide +kernel⟩
abbrev S__law_rounds_0 : MS := mIfS (mTest (mBin (gEq false) (mVar 2) (mFn gLst (mNil)))) (mAsg (mFn gLst (mCons (mC (.int 0)) (mNil))) (tName 2)) (mSkip)
abbrev S__law_rounds_1 : MS := mRet (mLc (mSq (mVar 2)) (tName 3) (mYes) (mCall F__law_dice (mCons (mVar 3) (mNil))) [3])
def m__law_rounds : MS := mSeq (mAsg (mSl (mVar 0) (mNoPart) (mPart (mVar 1))) (tName 2)) (mSeq (S__law_rounds_0) (S__law_rounds_1))
def f__law_rounds : Fn := defSem 4 2 m__law_rounds
theorem ok__law_rounds {B : Bx} {w : World} {base : Heap} (T : TX B base) : FnP B PP w base 3 T.a__law_rounds T.fd__law_rounds ["script", "most"] f__law_rounds := by
  refine fn_bodyC T.fu__law_rounds sc__law_rounds fun A outer s H E hr => ?_
  have hu := hu_of64 hr
  refine sss_cons (ss_nm (i := 2) sc__law_rounds.nd (se_slice (sv (i := 0)) (so_none) (so_some (sv (i := 1))))) ?_
  refine sss_cons ?_ ?_
  · refine ss_if (st_cmp (op_gEq hu) (sv (i := 2)) (se_lst (sa_nil))) ?_ ?_
    · exact sss_one (ss_nm (i := 2) sc__law_rounds.nd (se_lst (sa_cons (se_int) (sa_nil))))
    · exact sss_nil
  exact sss_one (ss_ret (se_lc rfl sc__law_rounds.nd (own := [("cell", 3)]) (blkOk_by (by rfl)) (si_list (sv (i := 2))) (fun _ _ _ _ _ => sg_nm (i := 3) sc__law_rounds.nd) (fun _ _ _ _ _ => sts_nil) (fun _ _ _ _ _ => se_call (OK__law_dice T) (hr.mono (by decide)) rfl T.mg__law_dice T.fu__law_dice.kp T.bi__law_dice tk0 (sa_cons (sv (i := 3)) (sa_nil))) (by decide)))
abbrev F__law_rounds : Fn := f__law_rounds
theorem OK__law_rounds {B : Bx} {w : World} {base : Heap} (T : TX B base) : FnP B PP w base 3 T.a__law_rounds T.fd__law_rounds ["script", "most"] F__law_rounds := ok__law_rounds T
abbrev N__law_under : List Str := ["what", "e", "some"]
theorem sc__law_under : FnScope N__law_under ["what"] (defScope s__law_under) := ⟨rfl, rfl, rfl, by decide +kernel, rfl, by decide +kernel, by decide +kernel⟩
theorem gives__law_under {B : Bx} {base : Heap} {X : Cx} (T : TX B base) (hK : X.K = B.K) (hmg : X.mg = B.mg) {g : Addr} {cdg : Value} {q : Str} : LamX.GivesTo X N__law_under "_law_under" (defScope s__law_under) g cdg (defBody s__law_under) "what" q (TUnder B.K T.C_SnowFault (fnK B.K (csT T))) := by
  rw [← hK]
  refine under_gives (i := 1) (j := 2) (fn := fnK X.K (csT T)) rfl (by rw [hmg]; exact T.mgc_SnowFault) (by decide) (fun _ => rfl) sc__law_under.nd rfl (by decide) rfl (fun D0 bs ef s H e oe d pn hz hf => ?_)
  obtain ⟨kc, ak⟩ := fnK_ok ef
  obtain ⟨b0, r0, e0, k0, ak⟩ := allK_cons ak
  obtain ⟨b1, r1, e1, k1, ak⟩ := allK_cons ak
  obtain ⟨b2, r2, e2, k2, ak⟩ := allK_cons ak
  obtain ⟨b3, r3, e3, k3, ak⟩ := allK_cons ak
  obtain ⟨b4, r4, e4, k4, ak⟩ := allK_cons ak
  obtain ⟨b5, r5, e5, k5, ak⟩ := allK_cons ak
  obtain ⟨b6, r6, e6, k6, ak⟩ := allK_cons ak
  obtain ⟨b7, r7, e7, k7, ak⟩ := allK_cons ak
  obtain ⟨b8, r8, e8, k8, ak⟩ := allK_cons ak
  have e9 := allK_nil ak
  subst e9 e8 e7 e6 e5 e4 e3 e2 e1 e0
  exact pss_under (bs1 := [b0, b1, b2, b3]) (bs2 := [b4, b5, b6, b7]) (bs3 := [b8]) sc__law_under.nd rfl (by decide) rfl (by decide) (by decide) (pa_isC (pe_isX (x := "e") (c := V.ref T.C_BadDeed) (X := (cxOf C8.CX0 X.prog X.w X.K X.mg X.base N__law_under "_law_under" (defScope s__law_under) g cdg X.A X.stack s H C8.E0).nox) (i := 1) kc hz hf k0 (fun u h => h) rfl (by show X.mg "isinstance" = none; rw [hmg]; exact T.no_isinstance) rfl rfl (.inl rfl) (by decide) (by decide) (pe_glob (v := V.ref T.C_BadDeed) (u := .ref T.C_BadDeed) rfl (by show X.mg "BadDeed" = _; rw [hmg]; exact T.mgc_BadDeed) rfl)) (pa_isC (pe_isX (x := "e") (c := V.ref T.C_BadPlan) (X := (cxOf C8.CX0 X.prog X.w X.K X.mg X.base N__law_under "_law_under" (defScope s__law_under) g cdg X.A X.stack s H C8.E0).nox) (i := 1) kc hz hf k1 (fun u h => h) rfl (by show X.mg "isinstance" = none; rw [hmg]; exact T.no_isinstance) rfl rfl (.inl rfl) (by decide) (by decide) (pe_glob (v := V.ref T.C_BadPlan) (u := .ref T.C_BadPlan) rfl (by show X.mg "BadPlan" = _; rw [hmg]; exact T.mgc_BadPlan) rfl)) (pa_isC (pe_isX (x := "e") (c := V.ref T.C_BadSize) (X := (cxOf C8.CX0 X.prog X.w X.K X.mg X.base N__law_under "_law_under" (defScope s__law_under) g cdg X.A X.stack s H C8.E0).nox) (i := 1) kc hz hf k2 (fun u h => h) rfl (by show X.mg "isinstance" = none; rw [hmg]; exact T.no_isinstance) rfl rfl (.inl rfl) (by decide) (by decide) (pe_glob (v := V.ref T.C_BadSize) (u := .ref T.C_BadSize) rfl (by show X.mg "BadSize" = _; rw [hmg]; exact T.mgc_BadSize) rfl)) (pa_isC (pe_isX (x := "e") (c := V.ref T.C_BadText) (X := (cxOf C8.CX0 X.prog X.w X.K X.mg X.base N__law_under "_law_under" (defScope s__law_under) g cdg X.A X.stack s H C8.E0).nox) (i := 1) kc hz hf k3 (fun u h => h) rfl (by show X.mg "isinstance" = none; rw [hmg]; exact T.no_isinstance) rfl rfl (.inl rfl) (by decide) (by decide) (pe_glob (v := V.ref T.C_BadText) (u := .ref T.C_BadText) rfl (by show X.mg "BadText" = _; rw [hmg]; exact T.mgc_BadText) rfl)) pa_isN)))) (pa_isC (pe_isX (x := "e") (c := V.ref T.C_Breaks) (X := (cxOf C8.CX0 X.prog X.w X.K X.mg X.base N__law_under "_law_under" (defScope s__law_under) g cdg X.A X.stack s H C8.E0).nox) (i := 1) kc hz hf k4 (fun u h => h) rfl (by show X.mg "isinstance" = none; rw [hmg]; exact T.no_isinstance) rfl rfl (.inl rfl) (by decide) (by decide) (pe_glob (v := V.ref T.C_Breaks) (u := .ref T.C_Breaks) rfl (by show X.mg "Breaks" = _; rw [hmg]; exact T.mgc_Breaks) rfl)) (pa_isC (pe_isX (x := "e") (c := V.ref T.C_NoRoom) (X := (cxOf C8.CX0 X.prog X.w X.K X.mg X.base N__law_under "_law_under" (defScope s__law_under) g cdg X.A X.stack s H C8.E0).nox) (i := 1) kc hz hf k5 (fun u h => h) rfl (by show X.mg "isinstance" = none; rw [hmg]; exact T.no_isinstance) rfl rfl (.inl rfl) (by decide) (by decide) (pe_glob (v := V.ref T.C_NoRoom) (u := .ref T.C_NoRoom) rfl (by show X.mg "NoRoom" = _; rw [hmg]; exact T.mgc_NoRoom) rfl)) (pa_isC (pe_isX (x := "e") (c := V.ref T.C_NoSuch) (X := (cxOf C8.CX0 X.prog X.w X.K X.mg X.base N__law_under "_law_under" (defScope s__law_under) g cdg X.A X.stack s H C8.E0).nox) (i := 1) kc hz hf k6 (fun u h => h) rfl (by show X.mg "isinstance" = none; rw [hmg]; exact T.no_isinstance) rfl rfl (.inl rfl) (by decide) (by decide) (pe_glob (v := V.ref T.C_NoSuch) (u := .ref T.C_NoSuch) rfl (by show X.mg "NoSuch" = _; rw [hmg]; exact T.mgc_NoSuch) rfl)) (pa_isC (pe_isX (x := "e") (c := V.ref T.C_NoWay) (X := (cxOf C8.CX0 X.prog X.w X.K X.mg X.base N__law_under "_law_under" (defScope s__law_under) g cdg X.A X.stack s H C8.E0).nox) (i := 1) kc hz hf k7 (fun u h => h) rfl (by show X.mg "isinstance" = none; rw [hmg]; exact T.no_isinstance) rfl rfl (.inl rfl) (by decide) (by decide) (pe_glob (v := V.ref T.C_NoWay) (u := .ref T.C_NoWay) rfl (by show X.mg "NoWay" = _; rw [hmg]; exact T.mgc_NoWay) rfl)) pa_isN)))) (pa_isC (pe_isX (x := "e") (c := V.ty "ValueError") (X := (cxOf C8.CX0 X.prog X.w X.K X.mg X.base N__law_under "_law_under" (defScope s__law_under) g cdg X.A X.stack s H C8.E0).nox) (i := 1) kc hz hf k8 (fun u h => h) rfl (by show X.mg "isinstance" = none; rw [hmg]; exact T.no_isinstance) rfl rfl (.inl rfl) (by decide) (by decide) (pe_bltn (v := V.ty "ValueError") (u := .type "ValueError") rfl (by show X.mg "ValueError" = none; rw [hmg]; exact T.no_ValueError) rfl rfl)) pa_isN) (by simp) rfl rfl
abbrev N_law : List Str := ["script", "dice", "many", "desk", "whats", "k", "j"]
theorem sc_law : FnScope N_law ["script"] (defScope s_law) := ⟨rfl, rfl, rfl, by decide +kernel, rfl, by decide +kernel, by decide +kernel⟩
abbrev S_law_0 : MS := mAsg (mFn gTup (mCons (mBin gAdd (mC (.int 1)) (mCall F__law_roll (mCons (mVar 1) (mCons (mC (.int 90)) (mNil))))) (mCons (mMake "Desk" F_Desk_init mNil) (mNil)))) (tTupT 2 (tMore (tName 2) (tMore (tName 3) (tNone))))
abbrev B_law_1 : MS := mSeq (S_law_0) (mSeq (mLams clU 4 5 (mCall F__law_roll (mCons (mVar 1) (mCons (mC (.int 8)) (mNil)))) [(mMeth "Desk" "undo" F_Desk_undo (mVar 3) mNil), (mMakeF "Eave" I_Eave (mCons (mBin gSub (mC (.int 1)) (mVar 2)) (mNil))), (mCall F_ice_bears (mCons (mBin gSub (mC (.int 0)) (mVar 2)) (mNil))), (mCall F_read_row (mCons (mBin gMulS (mC (.str "x")) (mVar 2)) (mNil))), (mMeth "Sledge" "put" F_Sledge_put (mMake "Sledge" F_Sledge_init (mCons (mVar 2) (mNil))) (mCons (mC (.str "wood")) (mCons (mBin gAdd (mVar 2) (mC (.int 1))) (mNil)))), (mMeth "Wall" "lay" F_Wall_lay (mMake "Wall" F_Wall_init (mCons (mVar 2) (mNil))) (mCons (mC (.int 0)) (mCons (mC (.int 0)) (mCons (mBin gAdd (mVar 2) (mC (.int 1))) (mNil))))), (mCall F_drag_of (mCons (mBin gMulS (mC (.str "x")) (mVar 2)) (mNil))), (mCall F_wax_for (mCons (mBin gSub (mBin gSub (mC (.int 0)) (mC (.int 40))) (mVar 2)) (mNil)))] (mBin gAdd (mLc (mRg1 (mCons (mC (.int 8)) (mNil))) (tName 6) (mYes) (mBin (gEq false) (mVar 6) (mVar 5)) [6]) (mFn gLst (mCons (mC (.bl true)) (mNil))))) (mForget [1, 2, 3, 4, 5]))
abbrev S_law_2 : MS := mFor (mSq (mCall F__law_rounds (mCons (mVar 0) (mCons (mC (.int 1)) (mNil))))) (tName 1) (B_law_1)
def m_law : MS := mSeq (mForget [1, 2, 3, 4, 5]) (mSeq (S_law_2) (mRet (mC (.bl true))))
def f_law : Fn := defSem 7 1 m_law
theorem ok_law {B : Bx} {w : World} {base : Heap} (T : TX B base) : FnP B PP w base 8 T.a_law T.fd_law ["script"] f_law := by
  refine fn_bodyC T.fu_law sc_law fun A outer s H E hr => ?_
  have hu := hu_of64 hr
  refine sss_forget [1, 2, 3, 4, 5] ?_
  refine sss_cons ?_ ?_
  · refine ss_for passB rfl (si_list (se_call (OK__law_rounds T) (hr.mono (by decide)) rfl T.mg__law_rounds T.fu__law_rounds.kp T.bi__law_rounds takesB (sa_cons (sv (i := 0)) (sa_cons (se_int) (sa_nil))))) (sg_nm (i := 1) sc_law.nd) ?_
    · refine sss_cons (ss_asg (se_tup (sa_cons (se_op (op_gAdd) (se_int) (se_call (OK__law_roll T) (hr.mono (by decide)) rfl T.mg__law_roll T.fu__law_roll.kp T.bi__law_roll takesB (sa_cons (sv (i := 1)) (sa_cons (se_int) (sa_nil))))) (sa_cons (se_make0 T.mk_Desk T.mgc_Desk (OK_Desk_init T) (hr.mono (by decide)) rfl T.mgc_Desk T.bi_Desk_init takesB) (sa_nil)))) (sg_tup rfl (sgs_cons (sg_nm (i := 2) sc_law.nd) (sgs_cons (sg_nm (i := 3) sc_law.nd) (sgs_nil))))) ?_
      refine sss_fin ?_
      refine sss_lams (iw := 4) (ik := 5) (k := 5) (ls := [⟨_, _, _, _⟩, ⟨_, _, _, _⟩, ⟨_, _, _, _⟩, ⟨_, _, _, _⟩, ⟨_, _, _, _⟩, ⟨_, _, _, _⟩, ⟨_, _, _, _⟩, ⟨_, _, _, _⟩]) (fn := fnK B.K (csT T)) sc_law.nd rfl (by first | exact .inl rfl | exact .inr rfl) (by first | exact .inl rfl | exact .inr rfl) rfl (by first | exact .inl rfl | exact .inr rfl) (by first | exact .inl rfl | exact .inr rfl) (by decide) T.tb_law rfl T.tm_law T.tu_law rfl rfl ?hl (by decide) rfl rfl rfl (fun pn => se_call (OK__law_roll T) (hr.mono (by decide)) rfl T.mg__law_roll T.fu__law_roll.kp T.bi__law_roll (takes_tr takesB rfl) (sa_cons (sv (i := 1)) (sa_cons (se_int) (sa_nil)))) (fun pn => se_op (op_gAdd) (se_lc rfl sc_law.nd (own := [("j", 6)]) (blkOk_by (by rfl)) (si_range1 rfl T.no_range (sa_cons (se_int) (sa_nil))) (fun _ _ _ _ _ => sg_nm (i := 6) sc_law.nd) (fun _ _ _ _ _ => sts_nil) (fun _ _ _ _ _ => se_cmp (op_gEq hu) (sv (i := 6)) (sv (i := 5))) (by decide)) (se_lst (sa_cons (se_bl) (sa_nil)))) rfl T.fu__law_under T.mg__law_under T.bi__law_under sc__law_under rfl (.inl rfl) (fun pn => gives__law_under T rfl rfl) rfl (hr.mono (by decide)) ?hb ?hc T.un_ok (fun pn => op_gNe hu) rfl rfl (by decide) (by decide) (by decide) (by decide) (by decide) (by decide) (by decide) rfl (by first | exact nomark _ | rfl)
      case hl =>
        intro l hl
        simp only [List.mem_cons, List.not_mem_nil, or_false] at hl
        rcases hl with rfl | rfl | rfl | rfl | rfl | rfl | rfl | rfl
        all_goals exact ⟨rfl, LamX.lamS_by (by rfl)⟩
      case hb =>
        intro l hl
        simp only [List.mem_cons, List.not_mem_nil, or_false] at hl
        rcases hl with rfl | rfl | rfl | rfl | rfl | rfl | rfl | rfl
        all_goals (intro _ _ _ _ _; rfl)
      case hc =>
        intro i l m el em A outer s H E f c' hr
        have hu := hu_of64 hr
        cases i with
        | zero => cases el; cases em; exact se_meth0 (sv (i := 3)) T.mgc_Desk (T.cls_Desk.cls _ T.mgc_Desk) T.me_Desk_undo (OK_Desk_undo T) (hr.mono (by decide)) T.bi_Desk_undo tkL
        | succ i =>
          cases i with
          | zero => cases el; cases em; exact se_makeF IO_Eave T.mk_Eave T.mgc_Eave (OK_Eave_init T) (hr.mono (by decide)) rfl T.mgc_Eave T.bi_Eave_init tkL (sa_cons (se_op (op_gSub) (se_int) (sv (i := 2))) (sa_nil))
          | succ i =>
            cases i with
            | zero => cases el; cases em; exact se_call (OK_ice_bears T) (hr.mono (by decide)) rfl T.mg_ice_bears T.fu_ice_bears.kp T.bi_ice_bears tkL (sa_cons (se_op (op_gSub) (se_int) (sv (i := 2))) (sa_nil))
            | succ i =>
              cases i with
              | zero => cases el; cases em; exact se_call (OK_read_row T) (hr.mono (by decide)) rfl T.mg_read_row T.fu_read_row.kp T.bi_read_row tkL (sa_cons (se_op (op_gMulS) (se_str) (sv (i := 2))) (sa_nil))
              | succ i =>
                cases i with
                | zero => cases el; cases em; exact se_meth (se_make T.mk_Sledge T.mgc_Sledge (OK_Sledge_init T) (hr.mono (by decide)) rfl T.mgc_Sledge T.bi_Sledge_init tkL (sa_cons (sv (i := 2)) (sa_nil))) T.mgc_Sledge (T.cls_Sledge.cls _ T.mgc_Sledge) T.me_Sledge_put (OK_Sledge_put T) (hr.mono (by decide)) T.bi_Sledge_put tkL (sa_cons (se_str) (sa_cons (se_op (op_gAdd) (sv (i := 2)) (se_int)) (sa_nil)))
                | succ i =>
                  cases i with
                  | zero => cases el; cases em; exact se_meth (se_make T.mk_Wall T.mgc_Wall (OK_Wall_init T) (hr.mono (by decide)) rfl T.mgc_Wall T.bi_Wall_init tkL (sa_cons (sv (i := 2)) (sa_nil))) T.mgc_Wall (T.cls_Wall.cls _ T.mgc_Wall) T.me_Wall_lay (OK_Wall_lay T) (hr.mono (by decide)) T.bi_Wall_lay tkL (sa_cons (se_int) (sa_cons (se_int) (sa_cons (se_op (op_gAdd) (sv (i := 2)) (se_int)) (sa_nil))))
                  | succ i =>
                    cases i with
                    | zero => cases el; cases em; exact se_call (OK_drag_of T) (hr.mono (by decide)) rfl T.mg_drag_of T.fu_drag_of.kp T.bi_drag_of tkL (sa_cons (se_op (op_gMulS) (se_str) (sv (i := 2))) (sa_nil))
                    | succ i =>
                      cases i with
                      | zero => cases el; cases em; exact se_call (OK_wax_for T) (hr.mono (by decide)) rfl T.mg_wax_for T.fu_wax_for.kp T.bi_wax_for tkL (sa_cons (se_op (op_gSub) (se_op (op_gSub) (se_int) (se_int)) (sv (i := 2))) (sa_nil))
                      | succ i =>
                        cases el
  exact sss_one (ss_ret (se_bl))
abbrev F_law : Fn := f_law
theorem OK_law {B : Bx} {w : World} {base : Heap} (T : TX B base) : FnP B PP w base 8 T.a_law T.fd_law ["script"] F_law := ok_law T
end
end K22
end
section
set_option Elab.async false
set_option linter.all false
set_option maxRecDepth 100000
set_option maxHeartbeats 4000000
namespace K22
open PySem S3 S9
noncomputable section
/-! _law_roll -/
abbrev e_DII : List (Int × Int) → AV := fun x => .dK (x.map fun p => (kI p.1, AV.int p.2))
abbrev e_LS : List Str → AV := fun x => .lst (x.map AV.str)
abbrev e_TI : List Int → AV := fun x => .tup (x.map AV.int)
abbrev e_P2II : Int × Int → AV := fun x => .tup [AV.int (x.1), AV.int (x.2)]
abbrev e_TP2II : List (Int × Int) → AV := fun x => .tup (x.map e_P2II)
abbrev e_LI : List Int → AV := fun x => .lst (x.map AV.int)
abbrev e_TTP2II : List (List (Int × Int)) → AV := fun x => .tup (x.map e_TP2II)
abbrev e_PR2SI : Str × Int → AV := fun x => .rdt [AV.str (x.1), AV.int (x.2)]
noncomputable def t__law_roll (dice_ : List Int) (many_ : Int) : ER ((List Int)) (Int × (List Int)) := (show Ct (Empty) Unit (Int × (List Int)) ((List Int)) from
  Ct.bind (N := Unit) (chk (InR dice_ 2) (chk ((!(decide ((ixT dice_ 2) = 2))) = true → InR dice_ 2) (chk ((!(decide ((ixT dice_ 2) = 2))) = true → (decide ((ixT dice_ 2) = 1)) = true → InR dice_ 0) ((if ((decide ((ixT dice_ 2) = 2)) || ((decide ((ixT dice_ 2) = 1)) && (decide (0 < (ixT dice_ 0))))) = true then chk (InR dice_ 0) (chk (0 < many_) (LetC (((ixT dice_ 0) % many_) : Int) fun found_2 => chk (InR dice_ 0) (chk (0 < many_ ∧ many_ < 1073741824) (chk (InR dice_ 0) (.rt (found_2, (setT dice_ 0 ((ixT dice_ 0) / many_)))))))) else .nx ()))))) fun y_1 => chk (InR dice_ 2) (chk (InR (setT dice_ 2 0) 0) (chk (InR (setT dice_ 2 0) 1) (chk (InR (setT dice_ 2 0) 0) (chk (InR (setT (setT dice_ 2 0) 0 (((((ixT (setT dice_ 2 0) 0) * 48271) + ((ixT (setT dice_ 2 0) 1) * 69621)) + 11) % 2147483647)) 1) (chk (InR (setT (setT dice_ 2 0) 0 (((((ixT (setT dice_ 2 0) 0) * 48271) + ((ixT (setT dice_ 2 0) 1) * 69621)) + 11) % 2147483647)) 1) (chk (InR (setT (setT (setT dice_ 2 0) 0 (((((ixT (setT dice_ 2 0) 0) * 48271) + ((ixT (setT dice_ 2 0) 1) * 69621)) + 11) % 2147483647)) 1 ((ixT (setT (setT dice_ 2 0) 0 (((((ixT (setT dice_ 2 0) 0) * 48271) + ((ixT (setT dice_ 2 0) 1) * 69621)) + 11) % 2147483647)) 1) + 1)) 0) (chk (InR (setT (setT (setT dice_ 2 0) 0 (((((ixT (setT dice_ 2 0) 0) * 48271) + ((ixT (setT dice_ 2 0) 1) * 69621)) + 11) % 2147483647)) 1 ((ixT (setT (setT dice_ 2 0) 0 (((((ixT (setT dice_ 2 0) 0) * 48271) + ((ixT (setT dice_ 2 0) 1) * 69621)) + 11) % 2147483647)) 1) + 1)) 0) (chk (0 < many_) (.rt (((((ixT (setT (setT (setT dice_ 2 0) 0 (((((ixT (setT dice_ 2 0) 0) * 48271) + ((ixT (setT dice_ 2 0) 1) * 69621)) + 11) % 2147483647)) 1 ((ixT (setT (setT dice_ 2 0) 0 (((((ixT (setT dice_ 2 0) 0) * 48271) + ((ixT (setT dice_ 2 0) 1) * 69621)) + 11) % 2147483647)) 1) + 1)) 0) / 7) + (ixT (setT (setT (setT dice_ 2 0) 0 (((((ixT (setT dice_ 2 0) 0) * 48271) + ((ixT (setT dice_ 2 0) 1) * 69621)) + 11) % 2147483647)) 1 ((ixT (setT (setT dice_ 2 0) 0 (((((ixT (setT dice_ 2 0) 0) * 48271) + ((ixT (setT dice_ 2 0) 1) * 69621)) + 11) % 2147483647)) 1) + 1)) 0)) % many_), (setT (setT (setT dice_ 2 0) 0 (((((ixT (setT dice_ 2 0) 0) * 48271) + ((ixT (setT dice_ 2 0) 1) * 69621)) + 11) % 2147483647)) 1 ((ixT (setT (setT dice_ 2 0) 0 (((((ixT (setT dice_ 2 0) 0) * 48271) + ((ixT (setT dice_ 2 0) 1) * 69621)) + 11) % 2147483647)) 1) + 1))))))))))))).finR
theorem T__law_roll (dice_ : List Int) (many_ : Int) : FOk F__law_roll [.own (.leaf (.lst (List.map AV.int dice_))), .val (AV.int many_)] (t__law_roll dice_ many_ : ER ((List Int)) (Int × (List Int))) (fun y => .val (AV.int y.1)) (fun y => [.own (.leaf (.lst (List.map AV.int y.2))), .dead]) (fun m => [.own (.leaf (.lst (List.map AV.int m))), .dead]) := by
  refine fok_bodyR (n := 3) (k := 2) (r := 1) rfl rfl (fun _ => (same_o (same_d same_nil))) (fun _ => (same_o (same_d same_nil))) fun F bs => ?_
  show TS F [.at (bs 0) (.leaf (.lst (List.map AV.int dice_))), .val (AV.int many_), .dead] _ _ _
  refine ts_seq (Na := Unit) (I := fun y_1 => [.at (bs 0) (.leaf (.lst (List.map AV.int dice_))), .val (AV.int many_), .dead]) ?_ fun y_1 => ?_
  · refine ts_chk fun g_9 => ?_
    refine ts_chk fun g_10 => ?_
    refine ts_chk fun g_11 => ?_
    refine ts_if (pt_or (pt_test (pe_bin (pe_binV (pv_own rfl (.inr ⟨_, rfl⟩)) (pv_e pe_c) (op_ixV rfl g_9)) pe_c (op_eq TI (ixT dice_ 2) 2))) fun h_3 => (pt_and (pt_test (pe_bin (pe_binV (pv_own rfl (.inr ⟨_, rfl⟩)) (pv_e pe_c) (op_ixV rfl (g_10 (nt_ h_3)))) pe_c (op_eq TI (ixT dice_ 2) 1))) fun h_4 => (pt_test (pe_bin (pe_binV (pv_own rfl (.inr ⟨_, rfl⟩)) (pv_e pe_c) (op_ixV rfl (g_11 (nt_ h_3) h_4))) pe_c (fun _ => gGt_int))))) (fun c_2 => ?_) (fun c_2 => ?_)
    · refine ts_chk fun g_12 => ?_
      refine ts_chk fun g_13 => ?_
      refine ts_let (E := AV.int) (pe_bin (pe_fn (pa_cons (pe_binV (pv_own rfl (.inr ⟨_, rfl⟩)) (pv_e pe_c) (op_ixV rfl g_12)) pa_nil) (fun _ => gInt_int)) (pe_var rfl) (op_mod g_13)) (by first | decide | simp) fun found_2 => ?_
      show TS F [.at (bs 0) (.leaf (.lst (List.map AV.int dice_))), .val (AV.int many_), .val (AV.int found_2)] _ _ _
      refine ts_chk fun g_14 => ?_
      refine ts_chk fun g_15 => ?_
      refine ts_chk fun g_16 => ?_
      refine ts_sub1 (o' := (.lst (List.map AV.int (setT dice_ 0 ((ixT dice_ 0) / many_))))) (foc_var rfl (.inr ⟨_, rfl⟩)) pe_c (pe_bin (pe_binV (pv_own rfl (.inr ⟨_, rfl⟩)) (pv_e pe_c) (op_ixV rfl g_14)) (pe_var rfl) (op_div g_15)) (nro_of TI _) (op_setL (E := AV.int) (x := ((ixT dice_ 0) / many_)) g_16) ?_
      show TS F [.at (bs 0) (.leaf (.lst (List.map AV.int (setT dice_ 0 ((ixT dice_ 0) / many_))))), .val (AV.int many_), .val (AV.int found_2)] _ _ _
      exact ts_ret (a := (AV.int found_2)) (pe_var rfl) rfl (.k (.d (.d .nil)))
    · exact ts_skip (.k (.k (.d .nil)))
  · show TS F [.at (bs 0) (.leaf (.lst (List.map AV.int dice_))), .val (AV.int many_), .dead] _ _ _
    refine ts_chk fun g_17 => ?_
    refine ts_sub1 (o' := (.lst (List.map AV.int (setT dice_ 2 0)))) (foc_var rfl (.inr ⟨_, rfl⟩)) pe_c pe_c (nro_of TI _) (op_setL (E := AV.int) (x := 0) g_17) ?_
    show TS F [.at (bs 0) (.leaf (.lst (List.map AV.int (setT dice_ 2 0)))), .val (AV.int many_), .dead] _ _ _
    refine ts_chk fun g_18 => ?_
    refine ts_chk fun g_19 => ?_
    refine ts_chk fun g_20 => ?_
    refine ts_sub1 (o' := (.lst (List.map AV.int (setT (setT dice_ 2 0) 0 (((((ixT (setT dice_ 2 0) 0) * 48271) + ((ixT (setT dice_ 2 0) 1) * 69621)) + 11) % 2147483647))))) (foc_var rfl (.inr ⟨_, rfl⟩)) pe_c (pe_bin (pe_fn (pa_cons (pe_bin (pe_bin (pe_bin (pe_binV (pv_own rfl (.inr ⟨_, rfl⟩)) (pv_e pe_c) (op_ixV rfl g_18)) pe_c (op_mul (.inr (by omega)))) (pe_bin (pe_binV (pv_own rfl (.inr ⟨_, rfl⟩)) (pv_e pe_c) (op_ixV rfl g_19)) pe_c (op_mul (.inr (by omega)))) (fun _ => gAdd_int)) pe_c (fun _ => gAdd_int)) pa_nil) (fun _ => gInt_int)) pe_c (op_mod (by omega))) (nro_of TI _) (op_setL (E := AV.int) (x := (((((ixT (setT dice_ 2 0) 0) * 48271) + ((ixT (setT dice_ 2 0) 1) * 69621)) + 11) % 2147483647)) g_20) ?_
    show TS F [.at (bs 0) (.leaf (.lst (List.map AV.int (setT (setT dice_ 2 0) 0 (((((ixT (setT dice_ 2 0) 0) * 48271) + ((ixT (setT dice_ 2 0) 1) * 69621)) + 11) % 2147483647))))), .val (AV.int many_), .dead] _ _ _
    refine ts_chk fun g_21 => ?_
    refine ts_chk fun g_22 => ?_
    refine ts_sub1 (o' := (.lst (List.map AV.int (setT (setT (setT dice_ 2 0) 0 (((((ixT (setT dice_ 2 0) 0) * 48271) + ((ixT (setT dice_ 2 0) 1) * 69621)) + 11) % 2147483647)) 1 ((ixT (setT (setT dice_ 2 0) 0 (((((ixT (setT dice_ 2 0) 0) * 48271) + ((ixT (setT dice_ 2 0) 1) * 69621)) + 11) % 2147483647)) 1) + 1))))) (foc_var rfl (.inr ⟨_, rfl⟩)) pe_c (pe_bin (pe_binV (pv_own rfl (.inr ⟨_, rfl⟩)) (pv_e pe_c) (op_ixV rfl g_21)) pe_c (fun _ => gAdd_int)) (nro_of TI _) (op_setL (E := AV.int) (x := ((ixT (setT (setT dice_ 2 0) 0 (((((ixT (setT dice_ 2 0) 0) * 48271) + ((ixT (setT dice_ 2 0) 1) * 69621)) + 11) % 2147483647)) 1) + 1)) g_22) ?_
    show TS F [.at (bs 0) (.leaf (.lst (List.map AV.int (setT (setT (setT dice_ 2 0) 0 (((((ixT (setT dice_ 2 0) 0) * 48271) + ((ixT (setT dice_ 2 0) 1) * 69621)) + 11) % 2147483647)) 1 ((ixT (setT (setT dice_ 2 0) 0 (((((ixT (setT dice_ 2 0) 0) * 48271) + ((ixT (setT dice_ 2 0) 1) * 69621)) + 11) % 2147483647)) 1) + 1))))), .val (AV.int many_), .dead] _ _ _
    refine ts_chk fun g_23 => ?_
    refine ts_chk fun g_24 => ?_
    refine ts_chk fun g_25 => ?_
    exact ts_ret (a := (AV.int ((((ixT (setT (setT (setT dice_ 2 0) 0 (((((ixT (setT dice_ 2 0) 0) * 48271) + ((ixT (setT dice_ 2 0) 1) * 69621)) + 11) % 2147483647)) 1 ((ixT (setT (setT dice_ 2 0) 0 (((((ixT (setT dice_ 2 0) 0) * 48271) + ((ixT (setT dice_ 2 0) 1) * 69621)) + 11) % 2147483647)) 1) + 1)) 0) / 7) + (ixT (setT (setT (setT dice_ 2 0) 0 (((((ixT (setT dice_ 2 0) 0) * 48271) + ((ixT (setT dice_ 2 0) 1) * 69621)) + 11) % 2147483647)) 1 ((ixT (setT (setT dice_ 2 0) 0 (((((ixT (setT dice_ 2 0) 0) * 48271) + ((ixT (setT dice_ 2 0) 1) * 69621)) + 11) % 2147483647)) 1) + 1)) 0)) % many_))) (pe_bin (pe_fn (pa_cons (pe_bin (pe_bin (pe_binV (pv_own rfl (.inr ⟨_, rfl⟩)) (pv_e pe_c) (op_ixV rfl g_23)) pe_c (op_div (by omega))) (pe_binV (pv_own rfl (.inr ⟨_, rfl⟩)) (pv_e pe_c) (op_ixV rfl g_24)) (fun _ => gAdd_int)) pa_nil) (fun _ => gInt_int)) (pe_var rfl) (op_mod g_25)) rfl (.k (.d (.d .nil)))

/-! Desk.__init__ -/
structure C_Desk where
  text : Str
  deeds : List (Str × Str)
  undone : List (Str × Str)
  deriving Inhabited
abbrev e_P2SS : Str × Str → AV := fun x => .tup [AV.str (x.1), AV.str (x.2)]
abbrev oC_Desk (c : C_Desk) : S9.MO := .ins "Desk" [("text", .val (AV.str c.text)), ("deeds", .own (.lst (List.map e_P2SS c.deeds))), ("undone", .own (.lst (List.map e_P2SS c.undone)))]
noncomputable def t_Desk_init  : ER (Unit) (C_Desk) := (show Ct (C_Desk) Unit (C_Desk) (Unit) from
  .nx (C_Desk.mk ("1 grit bought 9\n2 grit carried 6\n2 salt bought 4\n3 grit lent 1" : Str) ([] : List (Str × Str)) ([] : List (Str × Str)))).fin
theorem T_Desk_init  : FOk F_Desk_init [.own (.ins "Desk" [])] (t_Desk_init  : ER (Unit) (C_Desk)) (fun y => .val AV.non) (fun y => [.own (oC_Desk y)]) (fun m => [.dead]) := by
  refine fok_body (n := 1) (k := 1) (r := 0) rfl rfl (fun _ => rfl) (fun _ => (same_o same_nil)) (fun _ => (same_d same_nil)) fun F bs => ?_
  show TS F [.at (bs 0) (.ins "Desk" [])] _ _ _
  refine ts_fld (v := (AV.str ("1 grit bought 9\n2 grit carried 6\n2 salt bought 4\n3 grit lent 1" : Str))) rfl (.inr ⟨_, rfl⟩) pe_c (nr_of (d := TS_) _) (by first | decide | simp) ?_
  show TS F [.at (bs 0) (.ins "Desk" [("text", .val (AV.str ("1 grit bought 9\n2 grit carried 6\n2 salt bought 4\n3 grit lent 1" : Str)))])] _ _ _
  refine ts_fldX rfl (.inr ⟨_, rfl⟩) (xe_lstM (vs := List.map e_P2SS ([] : List (Str × Str))) pa_nil (nro_of (TP TS_ TS_) ([] : List (Str × Str))) (by first | decide | (simp; done) | (simp; decide))) rfl (by first | decide | simp) ?_
  show TS F [.at (bs 0) (.ins "Desk" [("text", .val (AV.str ("1 grit bought 9\n2 grit carried 6\n2 salt bought 4\n3 grit lent 1" : Str))), ("deeds", .own (.lst (List.map e_P2SS ([] : List (Str × Str)))))])] _ _ _
  refine ts_one ?_
  refine ts_fldX rfl (.inr ⟨_, rfl⟩) (xe_lstM (vs := List.map e_P2SS ([] : List (Str × Str))) pa_nil (nro_of (TP TS_ TS_) ([] : List (Str × Str))) (by first | decide | (simp; done) | (simp; decide))) rfl (by first | decide | simp) ?_
  show TS F [.at (bs 0) (.ins "Desk" [("text", .val (AV.str ("1 grit bought 9\n2 grit carried 6\n2 salt bought 4\n3 grit lent 1" : Str))), ("deeds", .own (.lst (List.map e_P2SS ([] : List (Str × Str))))), ("undone", .own (.lst (List.map e_P2SS ([] : List (Str × Str)))))])] _ _ _
  exact ts_skip (.k .nil)

/-! Desk.undo -/
noncomputable def t_Desk_undo (self_ : C_Desk) : ER (C_Desk) (C_Desk) := (show Ct (C_Desk) Unit (C_Desk) (C_Desk) from
  Ct.bind (N := Unit) ((if (decide (self_.deeds = ([] : List (Str × Str)))) = true then .exc "BadDeed" self_ else .nx ())) fun y_1 => chk (self_.deeds ≠ []) ((ER.ok ()).bindC fun y_2 => chk (LsOk (List.length self_.undone)) ((ER.ok ()).bindC fun y_3 => .nx (C_Desk.mk ((lastT self_.deeds).1) (List.dropLast self_.deeds) (self_.undone ++ [(lastT self_.deeds)]))))).fin
theorem T_Desk_undo (self_ : C_Desk) : FOk F_Desk_undo [.own (oC_Desk self_)] (t_Desk_undo self_ : ER (C_Desk) (C_Desk)) (fun y => .val AV.non) (fun y => [.own (oC_Desk y)]) (fun m => [.own (oC_Desk m)]) := by
  refine fok_body (n := 2) (k := 1) (r := 1) rfl rfl (fun _ => rfl) (fun _ => (same_o same_nil)) (fun _ => (same_o same_nil)) fun F bs => ?_
  show TS F [.at (bs 0) (oC_Desk self_), .dead] _ _ _
  refine ts_seq (Na := Unit) (I := fun y_1 => [.at (bs 0) (oC_Desk self_), .dead]) ?_ fun y_1 => ?_
  · refine ts_if (pt_test (pe_binV (pv_fldO rfl (.inr ⟨_, rfl⟩) rfl) (pv_e (pe_fn pa_nil (fun _ => lst0))) (op_eqVf (TL (TP TS_ TS_)) self_.deeds ([] : List (Str × Str)) (py_o (TP TS_ TS_)) (py_e (x := ([] : List (Str × Str))) (TL (TP TS_ TS_)))))) (fun c_2 => ?_) (fun c_2 => ?_)
    · exact ts_raise (.k (.d .nil))
    · exact ts_skip (.k (.d .nil))
  · show TS F [.at (bs 0) (oC_Desk self_), .dead] _ _ _
    refine ts_chk fun g_1 => ?_
    refine ts_letX (xe_popT (E := e_P2SS) (foc_fld rfl (.inr ⟨_, rfl⟩) rfl) (nro_of (TP TS_ TS_) _) g_1) (by first | decide | simp) fun y_2 _ => ?_
    show TS F [.at (bs 0) (.ins "Desk" [("text", .val (AV.str self_.text)), ("deeds", .own (.lst (List.map e_P2SS (List.dropLast self_.deeds)))), ("undone", .own (.lst (List.map e_P2SS self_.undone)))]), .val (e_P2SS (lastT self_.deeds))] _ _ _
    refine ts_chk fun g_2 => ?_
    refine ts_exprX (xe_appendT (E := e_P2SS) (x := (lastT self_.deeds)) (foc_fld rfl (.inr ⟨_, rfl⟩) rfl) (pe_var rfl) (nro_of (TP TS_ TS_) _) (ls_lt g_2)) fun y_3 _ => ?_
    show TS F [.at (bs 0) (.ins "Desk" [("text", .val (AV.str self_.text)), ("deeds", .own (.lst (List.map e_P2SS (List.dropLast self_.deeds)))), ("undone", .own (.lst (List.map e_P2SS (self_.undone ++ [(lastT self_.deeds)]))))]), .val (e_P2SS (lastT self_.deeds))] _ _ _
    refine ts_one ?_
    refine ts_fld (v := (AV.str ((lastT self_.deeds).1))) rfl (.inr ⟨_, rfl⟩) (pe_bin (pe_var rfl) pe_c op_fst) (nr_of (d := TS_) _) (by first | decide | simp) ?_
    show TS F [.at (bs 0) (.ins "Desk" [("text", .val (AV.str ((lastT self_.deeds).1))), ("deeds", .own (.lst (List.map e_P2SS (List.dropLast self_.deeds)))), ("undone", .own (.lst (List.map e_P2SS (self_.undone ++ [(lastT self_.deeds)]))))]), .val (e_P2SS (lastT self_.deeds))] _ _ _
    exact ts_skip (.k (.d .nil))

/-! Eave.__init__ -/
structure C_Eave where
  long : Int
  icicles : List (Int × Int)
  deriving Inhabited
abbrev oC_Eave (c : C_Eave) : S9.MO := .ins "Eave" [("long", .val (AV.int c.long)), ("icicles", .val (e_DII c.icicles))]
abbrev fsC_Eave (c : C_Eave) : List (Str × AV) := [("long", (AV.int c.long)), ("icicles", (e_DII c.icicles))]
abbrev eC_Eave (c : C_Eave) : AV := .ins "Eave" (fsC_Eave c)
noncomputable def t_Eave_init (long_ : Int) : ER (Unit) (C_Eave) := (show Ct (C_Eave) Unit (C_Eave) (Unit) from
  Ct.bind (N := Unit) ((if (decide (long_ < 1)) = true then .exc "BadPlan" () else .nx ())) fun y_1 => .nx (C_Eave.mk long_ ([] : List (Int × Int)))).fin
theorem T_Eave_init (long_ : Int) : FOk F_Eave_init [.own (.ins "Eave" []), .val (AV.int long_)] (t_Eave_init long_ : ER (Unit) (C_Eave)) (fun y => .val AV.non) (fun y => [.own (oC_Eave y), .dead]) (fun m => [.dead, .dead]) := by
  refine fok_body (n := 2) (k := 2) (r := 0) rfl rfl (fun _ => rfl) (fun _ => (same_o (same_d same_nil))) (fun _ => (same_d (same_d same_nil))) fun F bs => ?_
  show TS F [.at (bs 0) (.ins "Eave" []), .val (AV.int long_)] _ _ _
  refine ts_seq (Na := Unit) (I := fun y_1 => [.at (bs 0) (.ins "Eave" []), .val (AV.int long_)]) ?_ fun y_1 => ?_
  · refine ts_if (pt_test (pe_bin (pe_var rfl) pe_c (fun _ => gLt_int))) (fun c_2 => ?_) (fun c_2 => ?_)
    · exact ts_raise (.d (.d .nil))
    · exact ts_skip (.k (.k .nil))
  · show TS F [.at (bs 0) (.ins "Eave" []), .val (AV.int long_)] _ _ _
    refine ts_fld (v := (AV.int long_)) rfl (.inr ⟨_, rfl⟩) (pe_var rfl) (nr_of (d := TI) _) (by first | decide | simp) ?_
    show TS F [.at (bs 0) (.ins "Eave" [("long", .val (AV.int long_))]), .val (AV.int long_)] _ _ _
    refine ts_one ?_
    refine ts_fld (v := (e_DII ([] : List (Int × Int)))) rfl (.inr ⟨_, rfl⟩) pe_c (nroK kdI TI _) (by first | decide | simp) ?_
    show TS F [.at (bs 0) (.ins "Eave" [("long", .val (AV.int long_)), ("icicles", .val (e_DII ([] : List (Int × Int))))]), .val (AV.int long_)] _ _ _
    exact ts_skip (.k (.d .nil))

/-! ice_bears -/
noncomputable def t_ice_bears (thick_ : Int) : ER (Unit) (Int) := (show Ct (Empty) Unit (Int) (Unit) from
  Ct.bind (N := Unit) ((if (decide (thick_ < 0)) = true then .exc "BadSize" () else .nx ())) fun y_1 => chk (S9.MulOk (4 * thick_) thick_) (.rt ((4 * thick_) * thick_))).finR
theorem T_ice_bears (thick_ : Int) : FOk F_ice_bears [.val (AV.int thick_)] (t_ice_bears thick_ : ER (Unit) (Int)) (fun y => .val (AV.int y)) (fun y => [.dead]) (fun m => [.dead]) := by
  refine fok_bodyR (n := 1) (k := 1) (r := 0) rfl rfl (fun _ => (same_d same_nil)) (fun _ => (same_d same_nil)) fun F bs => ?_
  show TS F [.val (AV.int thick_)] _ _ _
  refine ts_seq (Na := Unit) (I := fun y_1 => [.val (AV.int thick_)]) ?_ fun y_1 => ?_
  · refine ts_if (pt_test (pe_bin (pe_var rfl) pe_c (fun _ => gLt_int))) (fun c_2 => ?_) (fun c_2 => ?_)
    · exact ts_raise (.d .nil)
    · exact ts_skip (.k .nil)
  · show TS F [.val (AV.int thick_)] _ _ _
    refine ts_chk fun g_1 => ?_
    exact ts_ret (a := (AV.int ((4 * thick_) * thick_))) (pe_bin (pe_bin pe_c (pe_var rfl) (op_mul (.inl (by omega)))) (pe_var rfl) (op_mul g_1)) rfl (.d .nil)

/-! Row.__init__ -/
structure C_Row where
  day : Int
  kind : Str
  deed : Str
  many : Int
  deriving Inhabited
abbrev e_ZS : List Str → AV := fun x => .rdt (x.map AV.str)
abbrev oC_Row (c : C_Row) : S9.MO := .ins "Row" [("day", .val (AV.int c.day)), ("kind", .val (AV.str c.kind)), ("deed", .val (AV.str c.deed)), ("many", .val (AV.int c.many))]
abbrev fsC_Row (c : C_Row) : List (Str × AV) := [("day", (AV.int c.day)), ("kind", (AV.str c.kind)), ("deed", (AV.str c.deed)), ("many", (AV.int c.many))]
abbrev eC_Row (c : C_Row) : AV := .ins "Row" (fsC_Row c)
noncomputable def t_Row_init (day_ : Int) (kind_ : Str) (deed_ : Str) (many_ : Int) : ER (Unit) (C_Row) := (show Ct (C_Row) Unit (C_Row) (Unit) from
  Ct.bind (N := Unit) ((if ((decide (day_ < 0)) || ((!decide (deed_ ∈ (["bought", "carried", "strewn", "lent"] : List Str))) || ((decide (kind_ = ("" : Str))) || ((strIn (" " : Str) kind_) || ((strIn ("\n" : Str) kind_) || (decide (many_ < 1))))))) = true then .exc "BadText" () else .nx ())) fun y_1 => .nx (C_Row.mk day_ kind_ deed_ many_)).fin
theorem T_Row_init (day_ : Int) (kind_ : Str) (deed_ : Str) (many_ : Int) : FOk F_Row_init [.own (.ins "Row" []), .val (AV.int day_), .val (AV.str kind_), .val (AV.str deed_), .val (AV.int many_)] (t_Row_init day_ kind_ deed_ many_ : ER (Unit) (C_Row)) (fun y => .val AV.non) (fun y => [.own (oC_Row y), .dead, .dead, .dead, .dead]) (fun m => [.dead, .dead, .dead, .dead, .dead]) := by
  refine fok_body (n := 5) (k := 5) (r := 0) rfl rfl (fun _ => rfl) (fun _ => (same_o (same_d (same_d (same_d (same_d same_nil)))))) (fun _ => (same_d (same_d (same_d (same_d (same_d same_nil)))))) fun F bs => ?_
  show TS F [.at (bs 0) (.ins "Row" []), .val (AV.int day_), .val (AV.str kind_), .val (AV.str deed_), .val (AV.int many_)] _ _ _
  refine ts_seq (Na := Unit) (I := fun y_1 => [.at (bs 0) (.ins "Row" []), .val (AV.int day_), .val (AV.str kind_), .val (AV.str deed_), .val (AV.int many_)]) ?_ fun y_1 => ?_
  · refine ts_if (pt_or (pt_test (pe_bin (pe_var rfl) pe_c (fun _ => gLt_int))) fun h_6 => (pt_or (pt_test (pe_bin (pe_var rfl) (show PE _ _ _ ((e_ZS (["bought", "carried", "strewn", "lent"] : List Str))) from pe_c) (op_int TS_ (x := deed_) (L := (["bought", "carried", "strewn", "lent"] : List Str)) (by first | decide | simp) inv_rdt))) fun h_7 => (pt_or (pt_test (pe_bin (pe_var rfl) pe_c (op_eq TS_ kind_ ("" : Str)))) fun h_8 => (pt_or (pt_test (pe_bin pe_c (pe_var rfl) op_inSf)) fun h_9 => (pt_or (pt_test (pe_bin pe_c (pe_var rfl) op_inSf)) fun h_10 => (pt_test (pe_bin (pe_var rfl) pe_c (fun _ => gLt_int)))))))) (fun c_2 => ?_) (fun c_2 => ?_)
    · exact ts_raiseE pe_c (.d (.d (.d (.d (.d .nil)))))
    · exact ts_skip (.k (.k (.k (.k (.k .nil)))))
  · show TS F [.at (bs 0) (.ins "Row" []), .val (AV.int day_), .val (AV.str kind_), .val (AV.str deed_), .val (AV.int many_)] _ _ _
    refine ts_fld (v := (AV.int day_)) rfl (.inr ⟨_, rfl⟩) (pe_var rfl) (nr_of (d := TI) _) (by first | decide | simp) ?_
    show TS F [.at (bs 0) (.ins "Row" [("day", .val (AV.int day_))]), .val (AV.int day_), .val (AV.str kind_), .val (AV.str deed_), .val (AV.int many_)] _ _ _
    refine ts_fld (v := (AV.str kind_)) rfl (.inr ⟨_, rfl⟩) (pe_var rfl) (nr_of (d := TS_) _) (by first | decide | simp) ?_
    show TS F [.at (bs 0) (.ins "Row" [("day", .val (AV.int day_)), ("kind", .val (AV.str kind_))]), .val (AV.int day_), .val (AV.str kind_), .val (AV.str deed_), .val (AV.int many_)] _ _ _
    refine ts_fld (v := (AV.str deed_)) rfl (.inr ⟨_, rfl⟩) (pe_var rfl) (nr_of (d := TS_) _) (by first | decide | simp) ?_
    show TS F [.at (bs 0) (.ins "Row" [("day", .val (AV.int day_)), ("kind", .val (AV.str kind_)), ("deed", .val (AV.str deed_))]), .val (AV.int day_), .val (AV.str kind_), .val (AV.str deed_), .val (AV.int many_)] _ _ _
    refine ts_one ?_
    refine ts_fld (v := (AV.int many_)) rfl (.inr ⟨_, rfl⟩) (pe_var rfl) (nr_of (d := TI) _) (by first | decide | simp) ?_
    show TS F [.at (bs 0) (.ins "Row" [("day", .val (AV.int day_)), ("kind", .val (AV.str kind_)), ("deed", .val (AV.str deed_)), ("many", .val (AV.int many_))]), .val (AV.int day_), .val (AV.str kind_), .val (AV.str deed_), .val (AV.int many_)] _ _ _
    exact ts_skip (.k (.d (.d (.d (.d .nil)))))

/-! Row.said -/
noncomputable def t_Row_said (self_ : C_Row) : ER (Unit) (Str) := (show Ct (Empty) Unit (Str) (Unit) from
  chk (StOk self_.day) (chk (StOk self_.many) (chk (JnOk (" " : Str) [(strI self_.day), self_.kind, self_.deed, (strI self_.many)]) (.rt (Txt.join (" " : Str) [(strI self_.day), self_.kind, self_.deed, (strI self_.many)]))))).finR
theorem T_Row_said (self_ : C_Row) : FOk F_Row_said [.val (eC_Row self_)] (t_Row_said self_ : ER (Unit) (Str)) (fun y => .val (AV.str y)) (fun y => [.dead]) (fun m => [.dead]) := by
  refine fok_bodyR (n := 1) (k := 1) (r := 0) rfl rfl (fun _ => (same_d same_nil)) (fun _ => (same_d same_nil)) fun F bs => ?_
  show TS F [.val (eC_Row self_)] _ _ _
  refine ts_chk fun g_1 => ?_
  refine ts_chk fun g_2 => ?_
  refine ts_chk fun g_3 => ?_
  exact ts_ret (a := (AV.str (Txt.join (" " : Str) [(strI self_.day), self_.kind, self_.deed, (strI self_.many)]))) (pe_fn1 (pv_e (pe_fn (pa_cons (pe_fn (pa_cons (pe_fld (pe_var rfl) rfl) pa_nil) (gStr_int g_1)) (pa_cons (pe_fld (pe_var rfl) rfl) (pa_cons (pe_fld (pe_var rfl) rfl) (pa_cons (pe_fn (pa_cons (pe_fld (pe_var rfl) rfl) pa_nil) (gStr_int g_2)) pa_nil)))) (fun _ => lst4))) (op_join (x := (" " : Str)) (L := [(strI self_.day), self_.kind, self_.deed, (strI self_.many)]) sq_lst g_3)) rfl (.d .nil)

/-! read_row -/
noncomputable def t_read_row (text_ : Str) : ER (Unit) (C_Row) := (show Ct (Empty) Unit (C_Row) (Unit) from
  chk (SpOk text_ (" " : Str)) (LetC ((Txt.split text_ (" " : Str)) : List Str) fun words_1 => Ct.bind (N := Unit) ((if (!decide ((lenT words_1) = 4)) = true then .exc "BadText" () else .nx ())) fun y_1 => chk (InR words_1 0) (chk (InR words_1 3) ((forT (fun (x_7 : Str) (y_5 : Unit) => Ct.bind (N := Unit) (chk (LsOk (Str.length x_7)) ((if ((!((decide (1 ≤ (strLen x_7))) && (decide ((strLen x_7) ≤ 4)))) || (List.any (strChs x_7) (fun (x_9 : Str) => (!strIn x_9 ("0123456789" : Str))))) = true then .exc "BadText" () else .nx ()))) fun y_6 => .nx ()) [((ixT words_1 0), (ixT words_1 3)).1, ((ixT words_1 0), (ixT words_1 3)).2] ()).bind fun y_7 => chk (InR words_1 0) (chk (InOk (ixT words_1 0)) (chk (InR words_1 1) (chk (InR words_1 2) (chk (InR words_1 3) (chk (InOk (ixT words_1 3)) (((t_Row_init (intS (ixT words_1 0)) (ixT words_1 1) (ixT words_1 2) (intS (ixT words_1 3))).mx (fun m => ())).bindC fun y_8 => Ct.bind (N := Unit) ((((t_Row_said y_8).mx (fun m => ())).bindC fun y_15 => if (!decide (y_15 = text_)) = true then .exc "BadText" () else .nx ())) fun y_12 => .rt y_8)))))))))).finR
theorem T_read_row (text_ : Str) : FOk F_read_row [.val (AV.str text_)] (t_read_row text_ : ER (Unit) (C_Row)) (fun y => .val (eC_Row y)) (fun y => [.dead]) (fun m => [.dead]) := by
  refine fok_bodyR (n := 5) (k := 1) (r := 4) rfl rfl (fun _ => (same_d same_nil)) (fun _ => (same_d same_nil)) fun F bs => ?_
  show TS F [.val (AV.str text_), .dead, .dead, .dead, .dead] _ _ _
  refine ts_chk fun g_1 => ?_
  refine ts_let (E := e_LS) (pe_splitS (pe_var rfl) pe_c g_1) (by first | decide | simp) fun words_1 => ?_
  show TS F [.val (AV.str text_), .val (e_LS words_1), .dead, .dead, .dead] _ _ _
  refine ts_seq (Na := Unit) (I := fun y_1 => [.val (AV.str text_), .val (e_LS words_1), .dead, .dead, .dead]) ?_ fun y_1 => ?_
  · refine ts_if (pt_test (pe_bin (pe_fn1 (pv_e (pe_var rfl)) (op_len (E := AV.str) (L := words_1) sq_lst ns_lst)) pe_c (op_ne TI (lenT words_1) 4))) (fun c_2 => ?_) (fun c_2 => ?_)
    · exact ts_raiseE pe_c (.d (.d (.d (.d (.d .nil)))))
    · exact ts_skip (.k (.k (.d (.d (.d .nil)))))
  · show TS F [.val (AV.str text_), .val (e_LS words_1), .dead, .dead, .dead] _ _ _
    refine ts_forget (ds' := [.val (AV.str text_), .val (e_LS words_1), .dead, .dead, .dead]) (.k (.k (.d (.k (.k .nil))))) (by simp only [List.cons_append, List.nil_append, List.forall_mem_cons, List.not_mem_nil, false_imp_iff, implies_true, and_true]; exact rfl) ?_
    refine ts_chk fun g_2 => ?_
    refine ts_chk fun g_3 => ?_
    refine ts_seq (ts_for (E := AV.str) (I := fun (y_5 : Unit) => [.val (AV.str text_), .val (e_LS words_1), .dead, .dead, .dead]) (pi_tup (xs := List.map AV.str [((ixT words_1 0), (ixT words_1 3)).1, ((ixT words_1 0), (ixT words_1 3)).2]) (pe_fn (pa_cons (pe_bin (pe_var rfl) pe_c (op_ixL (E := AV.str) (L := words_1) g_2)) (pa_cons (pe_bin (pe_var rfl) pe_c (op_ixL (E := AV.str) (L := words_1) g_3)) pa_nil)) (fun _ => tup2))) (.k (.k (.d (.d (.d .nil))))) (fun x_7 y_5 => tg_name (by first | decide | simp)) fun x_7 y_5 => ?_) fun y_7 => ?_
    · show TS F [.val (AV.str text_), .val (e_LS words_1), .val (AV.str x_7), .dead, .dead] _ _ _
      refine ts_seq (Na := Unit) (I := fun y_6 => [.val (AV.str text_), .val (e_LS words_1), .dead, .dead, .dead]) ?_ fun y_6 => ?_
      · refine ts_chk fun g_11 => ?_
        refine ts_if (pt_or (pt_not (pt_test (pe_chain pe_c (pe_fn1 (pv_e (pe_var rfl)) (op_lenS g_11)) (fun h_15 => pe_c) (fun _ => gLe_int) (fun h_15 => (fun _ => gLe_int))))) fun h_16 => (pt_test (pe_genN (E0 := AV.str) (E1 := AV.bl) (p := fun _ => true) (g := fun x_9 => (!strIn x_9 ("0123456789" : Str))) (pa_signs (pe_var rfl)) (by first | decide | simp) (fun _ _ => pqt_yes) (fun x_9 hx_8 _ => (pq_bin (pq_var rfl) pq_c op_inQSt)) (by first | exact fin_any | (rw [filter_yes]; exact fin_any))))) (fun c_10 => ?_) (fun c_10 => ?_)
        · exact ts_raiseE pe_c (.d (.d (.d (.d (.d .nil)))))
        · exact ts_skip (.k (.k (.d (.d (.d .nil)))))
      · show TS F [.val (AV.str text_), .val (e_LS words_1), .dead, .dead, .dead] _ _ _
        refine ts_one ?_
        refine ts_forget (ds' := [.val (AV.str text_), .val (e_LS words_1), .dead, .dead, .dead]) (.k (.k (.d (.k (.k .nil))))) (by simp only [List.cons_append, List.nil_append, List.forall_mem_cons, List.not_mem_nil, false_imp_iff, implies_true, and_true]; exact rfl) ?_
        exact ts_skip (.k (.k (.d (.d (.d .nil)))))
    · show TS F [.val (AV.str text_), .val (e_LS words_1), .dead, .dead, .dead] _ _ _
      refine ts_chk fun g_12 => ?_
      refine ts_chk fun g_13 => ?_
      refine ts_chk fun g_14 => ?_
      refine ts_chk fun g_15 => ?_
      refine ts_chk fun g_16 => ?_
      refine ts_chk fun g_17 => ?_
      refine ts_letX (xe_makeF (dma := fun _ => []) (mx := (fun m => ())) (fs := fsC_Row) (par_v (pe_fn (pa_cons (pe_bin (pe_var rfl) pe_c (op_ixL (E := AV.str) (L := words_1) g_12)) pa_nil) (op_intS g_13)) (par_v (pe_bin (pe_var rfl) pe_c (op_ixL (E := AV.str) (L := words_1) g_14)) (par_v (pe_bin (pe_var rfl) pe_c (op_ixL (E := AV.str) (L := words_1) g_15)) (par_v (pe_fn (pa_cons (pe_bin (pe_var rfl) pe_c (op_ixL (E := AV.str) (L := words_1) g_16)) pa_nil) (op_intS g_17)) par_nil)))) (.v (.v (.v (.v .nil)))) (leafs_v (leafs_v (leafs_v (leafs_v leafs_nil)))) (T_Row_init (intS (ixT words_1 0)) (ixT words_1 1) (ixT words_1 2) (intS (ixT words_1 3))) (fun _ => (.d (.d (.d (.d (.d .nil))))))) (by first | decide | simp) fun y_8 _ => ?_
      show TS F [.val (AV.str text_), .val (e_LS words_1), .dead, .val (eC_Row y_8), .dead] _ _ _
      refine ts_seq (Na := Unit) (I := fun y_12 => [.dead, .dead, .dead, .val (eC_Row y_8), .dead]) ?_ fun y_12 => ?_
      · refine ts_ifX (xt_test (xe_binL (xe_methF (pe_var rfl) rfl par_nil (.v .nil) (T_Row_said y_8) (fun _ => (.v .nil)) (fun _ => ⟨_, (.v .nil), (.d (.d (.d (.d (.d .nil)))))⟩)) (fun y_13 _ => (pe_var rfl)) (fun y_13 _ => (op_ne TS_ y_13 text_)))) (fun y_15 _ _ => ?_) (fun y_15 _ _ => ?_)
        · show TS F [.val (AV.str text_), .val (e_LS words_1), .dead, .val (eC_Row y_8), .dead] _ _ _
          exact ts_raiseE pe_c (.d (.d (.d (.d (.d .nil)))))
        · show TS F [.val (AV.str text_), .val (e_LS words_1), .dead, .val (eC_Row y_8), .dead] _ _ _
          exact ts_skip (.d (.d (.d (.k (.d .nil)))))
      · show TS F [.dead, .dead, .dead, .val (eC_Row y_8), .dead] _ _ _
        exact ts_ret (a := (eC_Row y_8)) (pe_var rfl) rfl (.d (.d (.d (.d (.d .nil)))))

/-! Sledge.__init__ -/
structure C_Sledge where
  bears : Int
  load : List (Str × Int)
  runner : Int
  deriving Inhabited
abbrev oC_Sledge (c : C_Sledge) : S9.MO := .ins "Sledge" [("bears", .val (AV.int c.bears)), ("load", .own (.dK (List.map (fun (p : Str × Int) => (kS p.1, AV.int p.2)) c.load))), ("runner", .val (AV.int c.runner))]
noncomputable def t_Sledge_init (bears_ : Int) : ER (Unit) (C_Sledge) := (show Ct (C_Sledge) Unit (C_Sledge) (Unit) from
  Ct.bind (N := Unit) ((if (decide (bears_ < 1)) = true then .exc "BadPlan" () else .nx ())) fun y_1 => .nx (C_Sledge.mk bears_ ([] : List (Str × Int)) 10)).fin
theorem T_Sledge_init (bears_ : Int) : FOk F_Sledge_init [.own (.ins "Sledge" []), .val (AV.int bears_)] (t_Sledge_init bears_ : ER (Unit) (C_Sledge)) (fun y => .val AV.non) (fun y => [.own (oC_Sledge y), .dead]) (fun m => [.dead, .dead]) := by
  refine fok_body (n := 2) (k := 2) (r := 0) rfl rfl (fun _ => rfl) (fun _ => (same_o (same_d same_nil))) (fun _ => (same_d (same_d same_nil))) fun F bs => ?_
  show TS F [.at (bs 0) (.ins "Sledge" []), .val (AV.int bears_)] _ _ _
  refine ts_seq (Na := Unit) (I := fun y_1 => [.at (bs 0) (.ins "Sledge" []), .val (AV.int bears_)]) ?_ fun y_1 => ?_
  · refine ts_if (pt_test (pe_bin (pe_var rfl) pe_c (fun _ => gLt_int))) (fun c_2 => ?_) (fun c_2 => ?_)
    · exact ts_raise (.d (.d .nil))
    · exact ts_skip (.k (.k .nil))
  · show TS F [.at (bs 0) (.ins "Sledge" []), .val (AV.int bears_)] _ _ _
    refine ts_fld (v := (AV.int bears_)) rfl (.inr ⟨_, rfl⟩) (pe_var rfl) (nr_of (d := TI) _) (by first | decide | simp) ?_
    show TS F [.at (bs 0) (.ins "Sledge" [("bears", .val (AV.int bears_))]), .val (AV.int bears_)] _ _ _
    refine ts_fldX rfl (.inr ⟨_, rfl⟩) xe_dnewK rfl (by first | decide | simp) ?_
    show TS F [.at (bs 0) (.ins "Sledge" [("bears", .val (AV.int bears_)), ("load", .own (.dK (List.map (fun (p : Str × Int) => (kS p.1, AV.int p.2)) ([] : List (Str × Int)))))]), .val (AV.int bears_)] _ _ _
    refine ts_one ?_
    refine ts_fld (v := (AV.int 10)) rfl (.inr ⟨_, rfl⟩) pe_c (nr_of (d := TI) _) (by first | decide | simp) ?_
    show TS F [.at (bs 0) (.ins "Sledge" [("bears", .val (AV.int bears_)), ("load", .own (.dK (List.map (fun (p : Str × Int) => (kS p.1, AV.int p.2)) ([] : List (Str × Int))))), ("runner", .val (AV.int 10))]), .val (AV.int bears_)] _ _ _
    exact ts_skip (.k (.d .nil))

/-! Sledge.weight -/
noncomputable def t_Sledge_weight (self_ : C_Sledge) : ER (Unit) (Int) := (show Ct (Empty) Unit (Int) (Unit) from
  .rt (List.sum (List.map Prod.snd self_.load))).finR
theorem T_Sledge_weight (self_ : C_Sledge) : FOk F_Sledge_weight [.own (oC_Sledge self_)] (t_Sledge_weight self_ : ER (Unit) (Int)) (fun y => .val (AV.int y)) (fun y => [.own (oC_Sledge self_)]) (fun m => [.own (oC_Sledge self_)]) := by
  refine fok_bodyR (n := 1) (k := 1) (r := 0) rfl rfl (fun _ => (same_o same_nil)) (fun _ => (same_o same_nil)) fun F bs => ?_
  show TS F [.at (bs 0) (oC_Sledge self_)] _ _ _
  exact ts_ret (a := (AV.int (List.sum (List.map Prod.snd self_.load)))) (pe_sumVals kdS (L := self_.load) (pv_fldO rfl (.inr ⟨_, rfl⟩) rfl) (d_oK : IsD _ (.k (enK kdS AV.int self_.load)))) rfl (.k .nil)

/-! Sledge.put -/
noncomputable def t_Sledge_put (self_ : C_Sledge) (name_ : Str) (weight_ : Int) : ER (C_Sledge) (C_Sledge) := (show Ct (C_Sledge) Unit (C_Sledge) (C_Sledge) from
  Ct.bind (N := Unit) ((if ((decide (name_ = ("" : Str))) || (dhas self_.load name_)) = true then .exc "BadDeed" self_ else .nx ())) fun y_1 => Ct.bind (N := Unit) ((if (decide (weight_ < 1)) = true then .exc "BadSize" self_ else .nx ())) fun y_2 => Ct.bind (N := Unit) ((((t_Sledge_weight self_).mx (fun m => self_)).bindC fun y_11 => if (decide (self_.bears < (y_11 + weight_))) = true then .exc "Breaks" self_ else .nx ())) fun y_7 => chk (LsOk (List.length self_.load)) (.nx (C_Sledge.mk self_.bears (dput self_.load name_ weight_) self_.runner))).fin
theorem T_Sledge_put (self_ : C_Sledge) (name_ : Str) (weight_ : Int) : FOk F_Sledge_put [.own (oC_Sledge self_), .val (AV.str name_), .val (AV.int weight_)] (t_Sledge_put self_ name_ weight_ : ER (C_Sledge) (C_Sledge)) (fun y => .val AV.non) (fun y => [.own (oC_Sledge y), .dead, .dead]) (fun m => [.own (oC_Sledge m), .dead, .dead]) := by
  refine fok_body (n := 3) (k := 3) (r := 0) rfl rfl (fun _ => rfl) (fun _ => (same_o (same_d (same_d same_nil)))) (fun _ => (same_o (same_d (same_d same_nil)))) fun F bs => ?_
  show TS F [.at (bs 0) (oC_Sledge self_), .val (AV.str name_), .val (AV.int weight_)] _ _ _
  refine ts_seq (Na := Unit) (I := fun y_1 => [.at (bs 0) (oC_Sledge self_), .val (AV.str name_), .val (AV.int weight_)]) ?_ fun y_1 => ?_
  · refine ts_if (pt_or (pt_test (pe_bin (pe_var rfl) pe_c (op_eq TS_ name_ ("" : Str)))) fun h_2 => (pt_test (pe_binV (pv_e (pe_var rfl)) (pv_fldO rfl (.inr ⟨_, rfl⟩) rfl) (op_inDf kdS (d_oK : IsD _ (.k (enK kdS AV.int self_.load))))))) (fun c_2 => ?_) (fun c_2 => ?_)
    · exact ts_raise (.k (.d (.d .nil)))
    · exact ts_skip (.k (.k (.k .nil)))
  · show TS F [.at (bs 0) (oC_Sledge self_), .val (AV.str name_), .val (AV.int weight_)] _ _ _
    refine ts_seq (Na := Unit) (I := fun y_2 => [.at (bs 0) (oC_Sledge self_), .val (AV.str name_), .val (AV.int weight_)]) ?_ fun y_2 => ?_
    · refine ts_if (pt_test (pe_bin (pe_var rfl) pe_c (fun _ => gLt_int))) (fun c_4 => ?_) (fun c_4 => ?_)
      · exact ts_raise (.k (.d (.d .nil)))
      · exact ts_skip (.k (.k (.k .nil)))
    · show TS F [.at (bs 0) (oC_Sledge self_), .val (AV.str name_), .val (AV.int weight_)] _ _ _
      refine ts_seq (Na := Unit) (I := fun y_7 => [.at (bs 0) (oC_Sledge self_), .val (AV.str name_), .val (AV.int weight_)]) ?_ fun y_7 => ?_
      · refine ts_ifX (xt_test (xe_binL (xe_binL (xe_meth rfl (.inr ⟨_, rfl⟩) rfl par_nil (.o rfl (.inr ⟨_, rfl⟩) .nil) (T_Sledge_weight self_) (fun _ => (.o rfl .nil)) (fun _ => ⟨_, (.o rfl .nil), (.k (.d (.d .nil)))⟩)) (fun y_8 _ => (pe_var rfl)) (fun y_8 _ => (fun _ => gAdd_int))) (fun y_9 _ => (pe_fldO rfl (.inr ⟨_, rfl⟩) rfl)) (fun y_9 _ => (fun _ => gGt_int)))) (fun y_11 _ _ => ?_) (fun y_11 _ _ => ?_)
        · show TS F [.at (bs 0) (oC_Sledge self_), .val (AV.str name_), .val (AV.int weight_)] _ _ _
          exact ts_raise (.k (.d (.d .nil)))
        · show TS F [.at (bs 0) (oC_Sledge self_), .val (AV.str name_), .val (AV.int weight_)] _ _ _
          exact ts_skip (.k (.k (.k .nil)))
      · show TS F [.at (bs 0) (oC_Sledge self_), .val (AV.str name_), .val (AV.int weight_)] _ _ _
        refine ts_one ?_
        refine ts_chk fun g_1 => ?_
        refine ts_sub1 (o' := (.dK (List.map (fun (p : Str × Int) => (kS p.1, AV.int p.2)) (dput self_.load name_ weight_)))) (foc_fld rfl (.inr ⟨_, rfl⟩) rfl) (pe_var rfl) (pe_var rfl) (nroK kdS TI _) (op_setD kdS (k := name_) (E := AV.int) (x := weight_) g_1) ?_
        show TS F [.at (bs 0) (.ins "Sledge" [("bears", .val (AV.int self_.bears)), ("load", .own (.dK (List.map (fun (p : Str × Int) => (kS p.1, AV.int p.2)) (dput self_.load name_ weight_)))), ("runner", .val (AV.int self_.runner))]), .val (AV.str name_), .val (AV.int weight_)] _ _ _
        exact ts_skip (.k (.d (.d .nil)))

/-! Wall.__init__ -/
structure C_Wall where
  wide : Int
  courses : List (List (Int × Int))
  deriving Inhabited
abbrev oC_Wall (c : C_Wall) : S9.MO := .ins "Wall" [("wide", .val (AV.int c.wide)), ("courses", .val (e_TTP2II c.courses))]
abbrev fsC_Wall (c : C_Wall) : List (Str × AV) := [("wide", (AV.int c.wide)), ("courses", (e_TTP2II c.courses))]
abbrev eC_Wall (c : C_Wall) : AV := .ins "Wall" (fsC_Wall c)
noncomputable def t_Wall_init (wide_ : Int) : ER (Unit) (C_Wall) := (show Ct (C_Wall) Unit (C_Wall) (Unit) from
  Ct.bind (N := Unit) ((if (decide (wide_ < 1)) = true then .exc "BadPlan" () else .nx ())) fun y_1 => .nx (C_Wall.mk wide_ ([] : List (List (Int × Int))))).fin
theorem T_Wall_init (wide_ : Int) : FOk F_Wall_init [.own (.ins "Wall" []), .val (AV.int wide_)] (t_Wall_init wide_ : ER (Unit) (C_Wall)) (fun y => .val AV.non) (fun y => [.own (oC_Wall y), .dead]) (fun m => [.dead, .dead]) := by
  refine fok_body (n := 2) (k := 2) (r := 0) rfl rfl (fun _ => rfl) (fun _ => (same_o (same_d same_nil))) (fun _ => (same_d (same_d same_nil))) fun F bs => ?_
  show TS F [.at (bs 0) (.ins "Wall" []), .val (AV.int wide_)] _ _ _
  refine ts_seq (Na := Unit) (I := fun y_1 => [.at (bs 0) (.ins "Wall" []), .val (AV.int wide_)]) ?_ fun y_1 => ?_
  · refine ts_if (pt_test (pe_bin (pe_var rfl) pe_c (fun _ => gLt_int))) (fun c_2 => ?_) (fun c_2 => ?_)
    · exact ts_raise (.d (.d .nil))
    · exact ts_skip (.k (.k .nil))
  · show TS F [.at (bs 0) (.ins "Wall" []), .val (AV.int wide_)] _ _ _
    refine ts_fld (v := (AV.int wide_)) rfl (.inr ⟨_, rfl⟩) (pe_var rfl) (nr_of (d := TI) _) (by first | decide | simp) ?_
    show TS F [.at (bs 0) (.ins "Wall" [("wide", .val (AV.int wide_))]), .val (AV.int wide_)] _ _ _
    refine ts_one ?_
    refine ts_fld (v := (e_TTP2II ([] : List (List (Int × Int))))) rfl (.inr ⟨_, rfl⟩) (pe_fn pa_nil (fun _ => tup0)) (nr_of (d := (TT (TT (TP TI TI)))) _) (by first | decide | simp) ?_
    show TS F [.at (bs 0) (.ins "Wall" [("wide", .val (AV.int wide_)), ("courses", .val (e_TTP2II ([] : List (List (Int × Int)))))]), .val (AV.int wide_)] _ _ _
    exact ts_skip (.k (.d .nil))

/-! Wall.held -/
noncomputable def t_Wall_held (self_ : C_Wall) (course_ : Int) (place_ : Int) (long_ : Int) : ER (Unit) (Int) := (show Ct (Empty) Unit (Int) (Unit) from
  Ct.bind (N := Unit) ((if (decide (course_ = 0)) = true then .rt long_ else .nx ())) fun y_1 => chk (InR self_.courses (course_ - 1)) (LetC ((ixT self_.courses (course_ - 1)) : List (Int × Int)) fun below_1 => chk (LsOk (List.length below_1)) (LetC ((List.map (fun (x_1 : Int × Int) => ((min (place_ + long_) (x_1.1 + x_1.2)) - (max place_ x_1.1))) below_1) : List Int) fun parts_1 => .rt (List.sum (List.map (fun (x_2 : Int) => x_2) (List.filter (fun (x_2 : Int) => (decide (0 < x_2))) parts_1)))))).finR
theorem T_Wall_held (self_ : C_Wall) (course_ : Int) (place_ : Int) (long_ : Int) : FOk F_Wall_held [.own (oC_Wall self_), .val (AV.int course_), .val (AV.int place_), .val (AV.int long_)] (t_Wall_held self_ course_ place_ long_ : ER (Unit) (Int)) (fun y => .val (AV.int y)) (fun y => [.own (oC_Wall self_), .dead, .dead, .dead]) (fun m => [.own (oC_Wall self_), .dead, .dead, .dead]) := by
  refine fok_bodyR (n := 9) (k := 4) (r := 5) rfl rfl (fun _ => (same_o (same_d (same_d (same_d same_nil))))) (fun _ => (same_o (same_d (same_d (same_d same_nil))))) fun F bs => ?_
  show TS F [.at (bs 0) (oC_Wall self_), .val (AV.int course_), .val (AV.int place_), .val (AV.int long_), .dead, .dead, .dead, .dead, .dead] _ _ _
  refine ts_seq (Na := Unit) (I := fun y_1 => [.at (bs 0) (oC_Wall self_), .val (AV.int course_), .val (AV.int place_), .val (AV.int long_), .dead, .dead, .dead, .dead, .dead]) ?_ fun y_1 => ?_
  · refine ts_if (pt_test (pe_bin (pe_var rfl) pe_c (op_eq TI course_ 0))) (fun c_2 => ?_) (fun c_2 => ?_)
    · exact ts_ret (a := (AV.int long_)) (pe_var rfl) rfl (.k (.d (.d (.d (.d (.d (.d (.d (.d .nil)))))))))
    · exact ts_skip (.k (.k (.k (.k (.d (.d (.d (.d (.d .nil)))))))))
  · show TS F [.at (bs 0) (oC_Wall self_), .val (AV.int course_), .val (AV.int place_), .val (AV.int long_), .dead, .dead, .dead, .dead, .dead] _ _ _
    refine ts_chk fun g_1 => ?_
    refine ts_let (E := e_TP2II) (pe_bin (pe_fldO rfl (.inr ⟨_, rfl⟩) rfl) (pe_bin (pe_var rfl) pe_c (fun _ => gSub_int)) (op_ixT (E := e_TP2II) (L := self_.courses) g_1)) (by first | decide | simp) fun below_1 => ?_
    show TS F [.at (bs 0) (oC_Wall self_), .val (AV.int course_), .val (AV.int place_), .val (AV.int long_), .val (e_TP2II below_1), .dead, .dead, .dead, .dead] _ _ _
    refine ts_chk fun g_2 => ?_
    refine ts_let (E := e_LI) (pe_lc0 (E0 := e_P2II) (E1 := AV.int) (d0 := [.at (bs 0) (oC_Wall self_), .val (AV.int course_), .val (AV.int place_), .val (AV.int long_), .val (e_TP2II below_1), .dead, .dead, .dead, .dead]) (g := fun x_1 => ((min (place_ + long_) (x_1.1 + x_1.2)) - (max place_ x_1.1))) (pi_tup (xs := List.map e_P2II below_1) (pe_var rfl)) (.k (.k (.k (.k (.k (.k (.d (.d (.k .nil))))))))) (by simp only [List.cons_append, List.nil_append, List.forall_mem_cons, List.not_mem_nil, false_imp_iff, implies_true, and_true]; exact ⟨rfl, rfl⟩) (fun x_1 => tg_tup (tgs_cons (tg_name (by first | decide | simp)) (tgs_cons (tg_name (by first | decide | simp)) (tgs_nil))) rfl) (fun x_1 hx_1 => (pe_bin (pe_fn (pa_cons (pe_bin (pe_var rfl) (pe_var rfl) (fun _ => gAdd_int)) (pa_cons (pe_bin (pe_var rfl) (pe_var rfl) (fun _ => gAdd_int)) pa_nil)) (fun _ => gMin_int2)) (pe_fn (pa_cons (pe_var rfl) (pa_cons (pe_var rfl) pa_nil)) (fun _ => gMax_int2)) (fun _ => gSub_int))) (ls_size g_2)) (by first | decide | simp) fun parts_1 => ?_
    show TS F [.at (bs 0) (oC_Wall self_), .val (AV.int course_), .val (AV.int place_), .val (AV.int long_), .val (e_TP2II below_1), .val (e_LI parts_1), .dead, .dead, .dead] _ _ _
    exact ts_ret (a := (AV.int (List.sum (List.map (fun (x_2 : Int) => x_2) (List.filter (fun (x_2 : Int) => (decide (0 < x_2))) parts_1))))) (pe_genN (E0 := AV.int) (E1 := AV.int) (p := fun x_2 => (decide (0 < x_2))) (g := fun x_2 => x_2) (pa_seqI (pv_e (pe_var rfl)) (sq_lst : IsSq _ (List.map AV.int parts_1))) (by first | decide | simp) (fun x_2 hx_2 => (pqt_test (pq_bin (pq_var rfl) pq_c (fun _ => gGtQ_int)))) (fun x_2 hx_2 hp_1 => (pq_var rfl)) (by first | exact fin_sum | (rw [filter_yes]; exact fin_sum))) rfl (.k (.d (.d (.d (.d (.d (.d (.d (.d .nil)))))))))

/-! Wall.lay -/
noncomputable def t_Wall_lay (self_ : C_Wall) (course_ : Int) (place_ : Int) (long_ : Int) : ER (C_Wall) (C_Wall) := (show Ct (C_Wall) Unit (C_Wall) (C_Wall) from
  Ct.bind (N := Unit) ((if (!((decide (0 ≤ course_)) && (decide (course_ ≤ (lenT self_.courses))))) = true then .exc "NoSuch" self_ else .nx ())) fun y_1 => Ct.bind (N := Unit) ((if (decide (long_ < 1)) = true then .exc "BadSize" self_ else .nx ())) fun y_2 => chk ((decide (course_ < (lenT self_.courses))) = true → InR self_.courses course_) (LetC ((if (decide (course_ < (lenT self_.courses))) = true then (ixT self_.courses course_) else ([] : List (Int × Int))) : List (Int × Int)) fun row_1 => Ct.bind (N := Unit) ((if ((decide (place_ < 0)) || (decide (self_.wide < (place_ + long_)))) = true then .exc "NoRoom" self_ else .nx ())) fun y_3 => Ct.bind (N := Unit) ((if (List.any row_1 (fun (x_2 : Int × Int) => ((decide (place_ < (x_2.1 + x_2.2))) && (decide (x_2.1 < (place_ + long_)))))) = true then .exc "NoRoom" self_ else .nx ())) fun y_4 => Ct.bind (N := Unit) ((((t_Wall_held self_ course_ place_ long_).mx (fun m => self_)).bindC fun y_13 => if (decide ((2 * y_13) < long_)) = true then .exc "Breaks" self_ else .nx ())) fun y_9 => chk (LsOk (List.length row_1 + List.length [(place_, long_)])) (chk (LsOk (List.length row_1 + List.length [(place_, long_)])) (LetC ((@sortT _ (OP OI OI) (row_1 ++ [(place_, long_)])) : List (Int × Int)) fun fresh_1 => chk (LsOk (List.length (cutT self_.courses none (some course_)) + List.length [fresh_1])) (chk (LsOk (List.length ((cutT self_.courses none (some course_)) ++ [fresh_1]) + List.length (cutT self_.courses (some (course_ + 1)) none))) (.nx (C_Wall.mk self_.wide (((cutT self_.courses none (some course_)) ++ [fresh_1]) ++ (cutT self_.courses (some (course_ + 1)) none))))))))).fin
theorem T_Wall_lay (self_ : C_Wall) (course_ : Int) (place_ : Int) (long_ : Int) : FOk F_Wall_lay [.own (oC_Wall self_), .val (AV.int course_), .val (AV.int place_), .val (AV.int long_)] (t_Wall_lay self_ course_ place_ long_ : ER (C_Wall) (C_Wall)) (fun y => .val AV.non) (fun y => [.own (oC_Wall y), .dead, .dead, .dead]) (fun m => [.own (oC_Wall m), .dead, .dead, .dead]) := by
  refine fok_body (n := 8) (k := 4) (r := 4) rfl rfl (fun _ => rfl) (fun _ => (same_o (same_d (same_d (same_d same_nil))))) (fun _ => (same_o (same_d (same_d (same_d same_nil))))) fun F bs => ?_
  show TS F [.at (bs 0) (oC_Wall self_), .val (AV.int course_), .val (AV.int place_), .val (AV.int long_), .dead, .dead, .dead, .dead] _ _ _
  refine ts_seq (Na := Unit) (I := fun y_1 => [.at (bs 0) (oC_Wall self_), .val (AV.int course_), .val (AV.int place_), .val (AV.int long_), .dead, .dead, .dead, .dead]) ?_ fun y_1 => ?_
  · refine ts_if (pt_not (pt_test (pe_chain pe_c (pe_var rfl) (fun h_2 => (pe_fn1 (pv_e (pe_fldO rfl (.inr ⟨_, rfl⟩) rfl)) (op_len (E := e_TP2II) (L := self_.courses) sq_tup ns_tup))) (fun _ => gLe_int) (fun h_2 => (fun _ => gLe_int))))) (fun c_2 => ?_) (fun c_2 => ?_)
    · exact ts_raise (.k (.d (.d (.d (.d (.d (.d (.d .nil))))))))
    · exact ts_skip (.k (.k (.k (.k (.d (.d (.d (.d .nil))))))))
  · show TS F [.at (bs 0) (oC_Wall self_), .val (AV.int course_), .val (AV.int place_), .val (AV.int long_), .dead, .dead, .dead, .dead] _ _ _
    refine ts_seq (Na := Unit) (I := fun y_2 => [.at (bs 0) (oC_Wall self_), .val (AV.int course_), .val (AV.int place_), .val (AV.int long_), .dead, .dead, .dead, .dead]) ?_ fun y_2 => ?_
    · refine ts_if (pt_test (pe_bin (pe_var rfl) pe_c (fun _ => gLt_int))) (fun c_4 => ?_) (fun c_4 => ?_)
      · exact ts_raise (.k (.d (.d (.d (.d (.d (.d (.d .nil))))))))
      · exact ts_skip (.k (.k (.k (.k (.d (.d (.d (.d .nil))))))))
    · show TS F [.at (bs 0) (oC_Wall self_), .val (AV.int course_), .val (AV.int place_), .val (AV.int long_), .dead, .dead, .dead, .dead] _ _ _
      refine ts_chk fun g_1 => ?_
      refine ts_let (E := e_TP2II) (pe_if (E := e_TP2II) (vx := (ixT self_.courses course_)) (vy := ([] : List (Int × Int))) (pt_test (pe_bin (pe_var rfl) (pe_fn1 (pv_e (pe_fldO rfl (.inr ⟨_, rfl⟩) rfl)) (op_len (E := e_TP2II) (L := self_.courses) sq_tup ns_tup)) (fun _ => gLt_int))) (fun h_3 => (pe_bin (pe_fldO rfl (.inr ⟨_, rfl⟩) rfl) (pe_var rfl) (op_ixT (E := e_TP2II) (L := self_.courses) (g_1 h_3)))) (fun h_3 => (pe_fn pa_nil (fun _ => tup0)))) (by first | decide | simp) fun row_1 => ?_
      show TS F [.at (bs 0) (oC_Wall self_), .val (AV.int course_), .val (AV.int place_), .val (AV.int long_), .val (e_TP2II row_1), .dead, .dead, .dead] _ _ _
      refine ts_seq (Na := Unit) (I := fun y_3 => [.at (bs 0) (oC_Wall self_), .val (AV.int course_), .val (AV.int place_), .val (AV.int long_), .val (e_TP2II row_1), .dead, .dead, .dead]) ?_ fun y_3 => ?_
      · refine ts_if (pt_or (pt_test (pe_bin (pe_var rfl) pe_c (fun _ => gLt_int))) fun h_5 => (pt_test (pe_bin (pe_bin (pe_var rfl) (pe_var rfl) (fun _ => gAdd_int)) (pe_fldO rfl (.inr ⟨_, rfl⟩) rfl) (fun _ => gGt_int)))) (fun c_6 => ?_) (fun c_6 => ?_)
        · exact ts_raise (.k (.d (.d (.d (.d (.d (.d (.d .nil))))))))
        · exact ts_skip (.k (.k (.k (.k (.k (.d (.d (.d .nil))))))))
      · show TS F [.at (bs 0) (oC_Wall self_), .val (AV.int course_), .val (AV.int place_), .val (AV.int long_), .val (e_TP2II row_1), .dead, .dead, .dead] _ _ _
        refine ts_seq (Na := Unit) (I := fun y_4 => [.at (bs 0) (oC_Wall self_), .val (AV.int course_), .val (AV.int place_), .val (AV.int long_), .val (e_TP2II row_1), .dead, .dead, .dead]) ?_ fun y_4 => ?_
        · refine ts_if (pt_test (pe_genU (E0 := e_P2II) (E1 := AV.bl) (p := fun _ => true) (g := fun x_2 => ((decide (place_ < (x_2.1 + x_2.2))) && (decide (x_2.1 < (place_ + long_))))) (k1 := fun x_2 => (AV.int x_2.1)) (k2 := fun x_2 => (AV.int x_2.2)) (pa_seqP (E0 := e_P2II) (L := row_1) (k := fun x_2 => ((AV.int x_2.1), (AV.int x_2.2))) (pv_e (pe_var rfl)) sq_tup (fun _ => rfl)) (fun _ => rfl) (by first | decide | simp) (by first | decide | simp) (fun _ _ => pqt_yes) (fun x_2 hx_2 _ => (pq_andE (pq_bin (pq_var rfl) (pq_bin (pq_var rfl) (pq_var rfl) (fun _ => gAddQ_int)) (fun _ => gLtQ_int)) fun h_7 => (pq_bin (pq_var rfl) (pq_bin (pq_var rfl) (pq_var rfl) (fun _ => gAddQ_int)) (fun _ => gLtQ_int)))) (by first | exact fin_any | (rw [filter_yes]; exact fin_any)))) (fun c_8 => ?_) (fun c_8 => ?_)
          · exact ts_raise (.k (.d (.d (.d (.d (.d (.d (.d .nil))))))))
          · exact ts_skip (.k (.k (.k (.k (.k (.d (.d (.d .nil))))))))
        · show TS F [.at (bs 0) (oC_Wall self_), .val (AV.int course_), .val (AV.int place_), .val (AV.int long_), .val (e_TP2II row_1), .dead, .dead, .dead] _ _ _
          refine ts_seq (Na := Unit) (I := fun y_9 => [.at (bs 0) (oC_Wall self_), .val (AV.int course_), .val (AV.int place_), .val (AV.int long_), .val (e_TP2II row_1), .dead, .dead, .dead]) ?_ fun y_9 => ?_
          · refine ts_ifX (xt_test (xe_binL (xe_binR pe_c (xe_meth rfl (.inr ⟨_, rfl⟩) rfl (par_v (pe_var rfl) (par_v (pe_var rfl) (par_v (pe_var rfl) par_nil))) (.o rfl (.inr ⟨_, rfl⟩) (.v (.v (.v .nil)))) (T_Wall_held self_ course_ place_ long_) (fun _ => (.o rfl (.v (.v (.v .nil))))) (fun _ => ⟨_, (.o rfl (.v (.v (.v .nil)))), (.k (.d (.d (.d (.d (.d (.d (.d .nil))))))))⟩)) (fun y_10 _ => (op_mul (.inl (by omega))))) (fun y_11 _ => (pe_var rfl)) (fun y_11 _ => (fun _ => gLt_int)))) (fun y_13 _ _ => ?_) (fun y_13 _ _ => ?_)
            · show TS F [.at (bs 0) (oC_Wall self_), .val (AV.int course_), .val (AV.int place_), .val (AV.int long_), .val (e_TP2II row_1), .dead, .dead, .dead] _ _ _
              exact ts_raise (.k (.d (.d (.d (.d (.d (.d (.d .nil))))))))
            · show TS F [.at (bs 0) (oC_Wall self_), .val (AV.int course_), .val (AV.int place_), .val (AV.int long_), .val (e_TP2II row_1), .dead, .dead, .dead] _ _ _
              exact ts_skip (.k (.k (.k (.k (.k (.d (.d (.d .nil))))))))
          · show TS F [.at (bs 0) (oC_Wall self_), .val (AV.int course_), .val (AV.int place_), .val (AV.int long_), .val (e_TP2II row_1), .dead, .dead, .dead] _ _ _
            refine ts_chk fun g_2 => ?_
            refine ts_chk fun g_3 => ?_
            refine ts_let (E := e_TP2II) (pe_fn1 (pv_e (pe_fn1 (pv_e (pe_bin (pe_var rfl) (pe_fn (pa_cons (pe_fn (pa_cons (pe_var rfl) (pa_cons (pe_var rfl) pa_nil)) (fun _ => tup2)) pa_nil) (fun _ => tup1)) (op_catT (E := e_P2II) (L := row_1) (M := [(place_, long_)]) g_3))) (op_sortedL (d := (OP OI OI)) (L := (row_1 ++ [(place_, long_)])) sq_tup (by first | decide | simp) sb_tup))) (op_tuple (xs := List.map e_P2II (@sortT _ (OP OI OI) (row_1 ++ [(place_, long_)]))) sq_lst tr_lst)) (by first | decide | simp) fun fresh_1 => ?_
            show TS F [.at (bs 0) (oC_Wall self_), .val (AV.int course_), .val (AV.int place_), .val (AV.int long_), .val (e_TP2II row_1), .val (e_TP2II fresh_1), .dead, .dead] _ _ _
            refine ts_one ?_
            refine ts_chk fun g_4 => ?_
            refine ts_chk fun g_5 => ?_
            refine ts_fld (v := (e_TTP2II (((cutT self_.courses none (some course_)) ++ [fresh_1]) ++ (cutT self_.courses (some (course_ + 1)) none)))) rfl (.inr ⟨_, rfl⟩) (pe_bin (pe_bin (pe_sl (pe_fldO rfl (.inr ⟨_, rfl⟩) rfl) po_no (po_some (pe_var rfl)) (op_slT (E := e_TP2II) (L := self_.courses))) (pe_fn (pa_cons (pe_var rfl) pa_nil) (fun _ => tup1)) (op_catT (E := e_TP2II) (L := (cutT self_.courses none (some course_))) (M := [fresh_1]) g_4)) (pe_sl (pe_fldO rfl (.inr ⟨_, rfl⟩) rfl) (po_some (pe_bin (pe_var rfl) pe_c (fun _ => gAdd_int))) po_no (op_slT (E := e_TP2II) (L := self_.courses))) (op_catT (E := e_TP2II) (L := ((cutT self_.courses none (some course_)) ++ [fresh_1])) (M := (cutT self_.courses (some (course_ + 1)) none)) g_5)) (nr_of (d := (TT (TT (TP TI TI)))) _) (by first | decide | simp) ?_
            show TS F [.at (bs 0) (.ins "Wall" [("wide", .val (AV.int self_.wide)), ("courses", .val (e_TTP2II (((cutT self_.courses none (some course_)) ++ [fresh_1]) ++ (cutT self_.courses (some (course_ + 1)) none))))]), .val (AV.int course_), .val (AV.int place_), .val (AV.int long_), .val (e_TP2II row_1), .val (e_TP2II fresh_1), .dead, .dead] _ _ _
            exact ts_skip (.k (.d (.d (.d (.d (.d (.d (.d .nil))))))))

/-! drag_of -/
noncomputable def t_drag_of (name_ : Str) : ER (Unit) (Int) := (show Ct (Empty) Unit (Int) (Unit) from
  (forT (fun (x_1 : Str × Int) (y_4 : Unit) => Ct.bind (N := Unit) ((if (decide (x_1.1 = name_)) = true then .rt x_1.2 else .nx ())) fun y_5 => .nx ()) ([(("ice" : Str), 1), (("firm" : Str), 2), (("fresh" : Str), 4), (("bare" : Str), 9)] : List (Str × Int)) ()).bind fun y_6 => .exc "NoSuch" ()).finR
theorem T_drag_of (name_ : Str) : FOk F_drag_of [.val (AV.str name_)] (t_drag_of name_ : ER (Unit) (Int)) (fun y => .val (AV.int y)) (fun y => [.dead]) (fun m => [.dead]) := by
  refine fok_bodyR (n := 3) (k := 1) (r := 2) rfl rfl (fun _ => (same_d same_nil)) (fun _ => (same_d same_nil)) fun F bs => ?_
  show TS F [.val (AV.str name_), .dead, .dead] _ _ _
  refine ts_forget (ds' := [.val (AV.str name_), .dead, .dead]) (.k (.d (.d .nil))) (by simp only [List.cons_append, List.nil_append, List.forall_mem_cons, List.not_mem_nil, false_imp_iff, implies_true, and_true]; exact ⟨rfl, rfl⟩) ?_
  refine ts_seq (ts_for (E := e_PR2SI) (I := fun (y_4 : Unit) => [.val (AV.str name_), .dead, .dead]) (pi_rdt (xs := List.map e_PR2SI ([(("ice" : Str), 1), (("firm" : Str), 2), (("fresh" : Str), 4), (("bare" : Str), 9)] : List (Str × Int))) pe_c) (.k (.d (.d .nil))) (fun x_1 y_4 => tg_rdt (tgs_cons (tg_name (by first | decide | simp)) (tgs_cons (tg_name (by first | decide | simp)) (tgs_nil))) rfl) fun x_1 y_4 => ?_) fun y_6 => ?_
  · show TS F [.val (AV.str name_), .val (AV.str x_1.1), .val (AV.int x_1.2)] _ _ _
    refine ts_seq (Na := Unit) (I := fun y_5 => [.val (AV.str name_), .dead, .dead]) ?_ fun y_5 => ?_
    · refine ts_if (pt_test (pe_bin (pe_var rfl) (pe_var rfl) (op_eq TS_ x_1.1 name_))) (fun c_8 => ?_) (fun c_8 => ?_)
      · exact ts_ret (a := (AV.int x_1.2)) (pe_var rfl) rfl (.d (.d (.d .nil)))
      · exact ts_skip (.k (.d (.d .nil)))
    · show TS F [.val (AV.str name_), .dead, .dead] _ _ _
      refine ts_one ?_
      refine ts_forget (ds' := [.val (AV.str name_), .dead, .dead]) (.k (.d (.d .nil))) (by simp only [List.cons_append, List.nil_append, List.forall_mem_cons, List.not_mem_nil, false_imp_iff, implies_true, and_true]; exact ⟨rfl, rfl⟩) ?_
      exact ts_skip (.k (.d (.d .nil)))
  · show TS F [.val (AV.str name_), .dead, .dead] _ _ _
    exact ts_raiseE (pe_var rfl) (.d (.d (.d .nil)))

/-! wax_for -/
noncomputable def t_wax_for (heat_ : Int) : ER (Unit) (Str) := (show Ct (Empty) Unit (Str) (Unit) from
  (forT (fun (x_1 : Str × Int) (y_4 : Unit) => Ct.bind (N := Unit) ((if (decide (x_1.2 ≤ heat_)) = true then .rt x_1.1 else .nx ())) fun y_5 => .nx ()) ([(("klister" : Str), 1), (("red" : Str), (-1)), (("violet" : Str), (-4)), (("blue" : Str), (-10)), (("green" : Str), (-18)), (("polar" : Str), (-40))] : List (Str × Int)) ()).bind fun y_6 => .exc "NoWay" ()).finR
theorem T_wax_for (heat_ : Int) : FOk F_wax_for [.val (AV.int heat_)] (t_wax_for heat_ : ER (Unit) (Str)) (fun y => .val (AV.str y)) (fun y => [.dead]) (fun m => [.dead]) := by
  refine fok_bodyR (n := 3) (k := 1) (r := 2) rfl rfl (fun _ => (same_d same_nil)) (fun _ => (same_d same_nil)) fun F bs => ?_
  show TS F [.val (AV.int heat_), .dead, .dead] _ _ _
  refine ts_forget (ds' := [.val (AV.int heat_), .dead, .dead]) (.k (.d (.d .nil))) (by simp only [List.cons_append, List.nil_append, List.forall_mem_cons, List.not_mem_nil, false_imp_iff, implies_true, and_true]; exact ⟨rfl, rfl⟩) ?_
  refine ts_seq (ts_for (E := e_PR2SI) (I := fun (y_4 : Unit) => [.val (AV.int heat_), .dead, .dead]) (pi_rdt (xs := List.map e_PR2SI ([(("klister" : Str), 1), (("red" : Str), (-1)), (("violet" : Str), (-4)), (("blue" : Str), (-10)), (("green" : Str), (-18)), (("polar" : Str), (-40))] : List (Str × Int))) pe_c) (.k (.d (.d .nil))) (fun x_1 y_4 => tg_rdt (tgs_cons (tg_name (by first | decide | simp)) (tgs_cons (tg_name (by first | decide | simp)) (tgs_nil))) rfl) fun x_1 y_4 => ?_) fun y_6 => ?_
  · show TS F [.val (AV.int heat_), .val (AV.str x_1.1), .val (AV.int x_1.2)] _ _ _
    refine ts_seq (Na := Unit) (I := fun y_5 => [.val (AV.int heat_), .dead, .dead]) ?_ fun y_5 => ?_
    · refine ts_if (pt_test (pe_bin (pe_var rfl) (pe_var rfl) (fun _ => gGe_int))) (fun c_8 => ?_) (fun c_8 => ?_)
      · exact ts_ret (a := (AV.str x_1.1)) (pe_var rfl) rfl (.d (.d (.d .nil)))
      · exact ts_skip (.k (.d (.d .nil)))
    · show TS F [.val (AV.int heat_), .dead, .dead] _ _ _
      refine ts_one ?_
      refine ts_forget (ds' := [.val (AV.int heat_), .dead, .dead]) (.k (.d (.d .nil))) (by simp only [List.cons_append, List.nil_append, List.forall_mem_cons, List.not_mem_nil, false_imp_iff, implies_true, and_true]; exact ⟨rfl, rfl⟩) ?_
      exact ts_skip (.k (.d (.d .nil)))
  · show TS F [.val (AV.int heat_), .dead, .dead] _ _ _
    exact ts_raise (.d (.d (.d .nil)))

end
end K22
end
section
set_option Elab.async false
set_option linter.all false
set_option maxRecDepth 100000
set_option maxHeartbeats 4000000
namespace K22
open PySem S3 S9
noncomputable section
noncomputable def t_lawbody (d_ : List Int) : Ct Unit Unit Bool Unit :=
  (((t__law_roll d_ 90).mx (fun m => ())).bind fun y_2 => (t_Desk_init.mx (fun m => ())).map (Prod.mk y_2)).bindC fun y_4 => chk (MulSOk ("x" : Str) (1 + y_4.1.1)) (chk (MulSOk ("x" : Str) (1 + y_4.1.1)) ((((t__law_roll y_4.1.2 8).mx (fun m => ())).bind fun y_5 => chkE ((RgOk 8) ∧ (LsOk (List.length (rgT 0 8))) ∧ (LsOk (List.length (List.map (fun (x_1 : Int) => (decide (x_1 = y_5.1))) (rgT 0 8)) + List.length [true]))) (.ok y_5)).bindC fun y_5 => lamsC clU y_5.1 [exN ((t_Desk_undo y_4.2).mx (fun m => ())), exN ((t_Eave_init (1 - (1 + y_4.1.1))).mx (fun m => ())), exN ((t_ice_bears (0 - (1 + y_4.1.1))).mx (fun m => ())), exN ((t_read_row (Txt.mul ("x" : Str) (1 + y_4.1.1))).mx (fun m => ())), exN (((t_Sledge_init (1 + y_4.1.1)).mx (fun m => ())).bind fun y_6 => (t_Sledge_put y_6 ("wood" : Str) ((1 + y_4.1.1) + 1)).exO), exN (((t_Wall_init (1 + y_4.1.1)).mx (fun m => ())).bind fun y_7 => (t_Wall_lay y_7 0 0 ((1 + y_4.1.1) + 1)).exO), exN ((t_drag_of (Txt.mul ("x" : Str) (1 + y_4.1.1))).mx (fun m => ())), exN ((t_wax_for ((0 - 40) - (1 + y_4.1.1))).mx (fun m => ()))] ((List.map (fun (x_1 : Int) => (decide (x_1 = y_5.1))) (rgT 0 8)) ++ [true]) false (.nx ())))
theorem T_lawbody (F : Fr) (d_ : List Int) : TS F [.dead, .own (.leaf (.lst (List.map AV.int d_))), .dead, .dead, .dead, .dead, .dead] B_law_1 (t_lawbody d_) ({ nx := fun _ => [.dead, .dead, .dead, .dead, .dead, .dead, .dead], lp := fun _ => [], rt := fun z => ([.dead, .dead, .dead, .dead, .dead, .dead, .dead], .val (.bl z)), ex := fun _ => [.dead, .dead, .dead, .dead, .dead, .dead, .dead] } : Ds Unit Unit Bool Unit) := by
  refine ts_asgL (n := 2) (is := [2, 3]) (xl_consV (xe_binR pe_c (xe_call (par_o rfl (.inl rfl) (par_v pe_c par_nil)) (.o rfl (.inl rfl) (.v .nil)) (T__law_roll d_ 90) (fun _ => (.o rfl (.v .nil))) (fun _ => ⟨_, (.o rfl (.v .nil)), (.d (.d (.d (.d (.d (.d (.d .nil)))))))⟩)) (fun y_1 _ => (fun _ => gAdd_int))) (fun y_2 _ => by exact (xl_consE (xe_make par_nil .nil T_Desk_init (fun _ => .nil) (fun _ => ⟨_, .nil, (.d (.d (.d (.d (.d (.d (.d .nil)))))))⟩)) (fun y_3 _ => pa_nil)))) rfl (by first | decide | simp) (fun _ => rfl) (fun _ => by intro j hj; simp only [List.mem_cons, List.not_mem_nil, or_false] at hj; rcases hj with rfl | rfl <;> (show _ < 7; decide)) fun y_4 _ => ?_
  show TS F [.dead, .own (.leaf (.lst (List.map AV.int y_4.1.2))), .val (AV.int (1 + y_4.1.1)), .own (oC_Desk y_4.2), .dead, .dead, .dead] _ _ _
  refine ts_chk fun g_1 => ?_
  refine ts_chk fun g_2 => ?_
  refine ts_lams (dy := fun y_5 => [.dead, .own (.leaf (.lst (List.map AV.int y_5.2))), .val (AV.int (1 + y_4.1.1)), .own (oC_Desk y_4.2), .dead, .dead, .dead]) (dd := fun y_5 => [.dead, .dead, .val (AV.int (1 + y_4.1.1)), .dead, .dead, .val (AV.int y_5.1), .dead]) (by simp) (by simp) (fun _ => rfl) (xe_guard (xe_call (par_o rfl (.inl rfl) (par_v pe_c par_nil)) (.o rfl (.inl rfl) (.v .nil)) (T__law_roll y_4.1.2 8) (fun _ => (.o rfl (.v .nil))) (fun _ => ⟨_, (.o rfl (.v .nil)), (.d (.d (.d (.d (.d (.d (.d .nil)))))))⟩))) (fun y_5 _ => (show LamsX F [.dead, .own (.leaf (.lst (List.map AV.int y_5.2))), .val (AV.int (1 + y_4.1.1)), .own (oC_Desk y_4.2), .dead, .val (AV.int y_5.1), .dead] [.dead, .dead, .val (AV.int (1 + y_4.1.1)), .dead, .dead, .val (AV.int y_5.1), .dead] _ _ from (.cons (xe_meth rfl (.inl rfl) rfl par_nil (.o rfl (.inl rfl) .nil) (T_Desk_undo y_4.2) (fun _ => (.o rfl .nil)) (fun _ => ⟨_, (.o rfl .nil), (by exact (.d (.d (.k (.d (.d (.k (.d .nil))))))))⟩)) (.cons (xe_makeF (dma := fun _ => []) (mx := (fun m => ())) (fs := fsC_Eave) (par_v (pe_bin pe_c (pe_var rfl) (fun _ => gSub_int)) par_nil) (.v .nil) (leafs_v leafs_nil) (T_Eave_init (1 - (1 + y_4.1.1))) (fun _ => (.d (.d (.k (.d (.d (.k (.d .nil))))))))) (.cons (xe_call (par_v (pe_bin pe_c (pe_var rfl) (fun _ => gSub_int)) par_nil) (.v .nil) (T_ice_bears (0 - (1 + y_4.1.1))) (fun _ => (.v .nil)) (fun _ => ⟨_, (.v .nil), (by exact (.d (.d (.k (.d (.d (.k (.d .nil))))))))⟩)) (.cons (xe_call (par_v (pe_bin pe_c (pe_var rfl) (op_mulS g_1)) par_nil) (.v .nil) (T_read_row (Txt.mul ("x" : Str) (1 + y_4.1.1))) (fun _ => (.v .nil)) (fun _ => ⟨_, (.v .nil), (by exact (.d (.d (.k (.d (.d (.k (.d .nil))))))))⟩)) (.cons (xe_methNO (xe_make (par_v (pe_var rfl) par_nil) (.v .nil) (T_Sledge_init (1 + y_4.1.1)) (fun _ => (.v .nil)) (fun _ => ⟨_, (.v .nil), (by exact (.d (.d (.k (.d (.d (.k (.d .nil))))))))⟩)) (fun _ => rfl) (fun y_6 => (par_v pe_c (par_v (pe_bin (pe_var rfl) pe_c (fun _ => gAdd_int)) par_nil))) (fun y_6 => (.v (.v .nil))) (fun y_6 => T_Sledge_put y_6 ("wood" : Str) ((1 + y_4.1.1) + 1)) (fun y_6 => (.d (.d (.k (.d (.d (.k (.d .nil))))))))) (.cons (xe_methNO (xe_make (par_v (pe_var rfl) par_nil) (.v .nil) (T_Wall_init (1 + y_4.1.1)) (fun _ => (.v .nil)) (fun _ => ⟨_, (.v .nil), (by exact (.d (.d (.k (.d (.d (.k (.d .nil))))))))⟩)) (fun _ => rfl) (fun y_7 => (par_v pe_c (par_v pe_c (par_v (pe_bin (pe_var rfl) pe_c (fun _ => gAdd_int)) par_nil)))) (fun y_7 => (.v (.v (.v .nil)))) (fun y_7 => T_Wall_lay y_7 0 0 ((1 + y_4.1.1) + 1)) (fun y_7 => (.d (.d (.k (.d (.d (.k (.d .nil))))))))) (.cons (xe_call (par_v (pe_bin pe_c (pe_var rfl) (op_mulS g_2)) par_nil) (.v .nil) (T_drag_of (Txt.mul ("x" : Str) (1 + y_4.1.1))) (fun _ => (.v .nil)) (fun _ => ⟨_, (.v .nil), (by exact (.d (.d (.k (.d (.d (.k (.d .nil))))))))⟩)) (.cons (xe_call (par_v (pe_bin (pe_bin pe_c pe_c (fun _ => gSub_int)) (pe_var rfl) (fun _ => gSub_int)) par_nil) (.v .nil) (T_wax_for ((0 - 40) - (1 + y_4.1.1))) (fun _ => (.v .nil)) (fun _ => ⟨_, (.v .nil), (by exact (.d (.d (.k (.d (.d (.k (.d .nil))))))))⟩)) .nil)))))))))) (fun y_5 l_ => (pe_bin (pe_lc0 (E0 := AV.int) (E1 := AV.bl) (d0 := [.dead, .dead, .val (AV.int (1 + y_4.1.1)), .dead, .dead, .val (AV.int y_5.1), .dead]) (g := fun x_1 => (decide (x_1 = y_5.1))) (pi_range1 (pa_cons pe_c pa_nil) (l_.2.1)) (.k (.k (.k (.k (.k (.k (.d .nil))))))) (by simp only [List.cons_append, List.nil_append, List.forall_mem_cons, List.not_mem_nil, false_imp_iff, implies_true, and_true]; exact rfl) (fun x_1 => tg_name (by first | decide | simp)) (fun x_1 hx_1 => (pe_bin (pe_var rfl) (pe_var rfl) (op_eq TI x_1 y_5.1))) (ls_size (l_.2.2.1))) (pe_fn (pa_cons pe_c pa_nil) (fun _ => lst1)) (op_catL (l_.2.2.2)))) (fun y_5 _ => ?_) (fun y_5 _ => ?_)
  · show TS F [.dead, .dead, .val (AV.int (1 + y_4.1.1)), .dead, .dead, .val (AV.int y_5.1), .dead] _ _ _
    refine ts_one ?_
    refine ts_forget (ds' := [.dead, .dead, .dead, .dead, .dead, .dead, .dead]) (.k (.d (.d (.d (.d (.d (.k .nil))))))) (by simp only [List.cons_append, List.nil_append, List.forall_mem_cons, List.not_mem_nil, false_imp_iff, implies_true, and_true]; exact ⟨rfl, rfl, rfl, rfl, rfl⟩) ?_
    exact ts_skip (.d (.d (.d (.d (.d (.d (.d .nil)))))))
  · show TS F [.dead, .dead, .val (AV.int (1 + y_4.1.1)), .dead, .dead, .val (AV.int y_5.1), .dead] _ _ _
    exact ts_ret (a := (AV.bl false)) pe_c rfl (.d (.d (.d (.d (.d (.d (.d .nil)))))))

end
end K22
end
section
set_option Elab.async false
set_option linter.all false
set_option maxRecDepth 100000
set_option maxHeartbeats 4000000
namespace K22
open PySem S3 S9
noncomputable section
theorem roll_ok {d : List Int} (hd : d.length = 3) {many : Int} (h1 : 0 < many) (h2 : many < 1073741824) : ∃ r d', t__law_roll d many = .ok (r, d') ∧ 0 ≤ r ∧ r < many ∧ d'.length = 3 := by
  obtain ⟨a, b, c, rfl⟩ : ∃ a b c, d = [a, b, c] := by
    match d, hd with
    | [a, b, c], _ => exact ⟨a, b, c, rfl⟩
  unfold t__law_roll
  simp only [ixT_0, ixT_1, ixT_2, setT_0, setT_1, setT_2, letC_eq]
  rw [chk_t inR_3_2, chk_t (fun _ => inR_3_2), chk_t (fun _ _ => inR_3_0), chk_t inR_3_0, chk_t h1, chk_t inR_3_0, chk_t ⟨h1, h2⟩, chk_t inR_3_0]
  simp only [chk_t inR_3_0, chk_t inR_3_1, chk_t inR_3_2, chk_t h1]
  split
  · exact ⟨a % many, [a / many, b, c], rfl, Int.emod_nonneg _ (by omega), Int.emod_lt_of_pos _ h1, rfl⟩
  · exact ⟨_, _, rfl, Int.emod_nonneg _ (by omega), Int.emod_lt_of_pos _ h1, rfl⟩
end
end K22
end
section
set_option Elab.async false
set_option linter.all false
set_option maxRecDepth 100000
set_option maxHeartbeats 1000000
namespace K22
open PySem S3 S9
noncomputable section
theorem roll_we {d : List Int} (hd : d.length = 3) {many : Int} (h1 : 0 < many) (h2 : many < 1073741824) {P : Int × List Int → Prop} {E : Str → List Int → Prop} (h : ∀ r d', 0 ≤ r → r < many → d'.length = 3 → P (r, d')) : WE (t__law_roll d many) P E := by
  obtain ⟨r, d', e, a, b, c⟩ := roll_ok hd h1 h2
  exact we_of e (h r d' a b c)
theorem lsok_small {n : Nat} (h : n ≤ 10000) : LsOk n := by unfold LsOk; omega
theorem xs_facts : ∀ m : Fin 91, 1 ≤ m.val → (Txt.split (Txt.mul ("x" : Str) (m.val : Int)) " ").length ≠ 4 ∧ (Txt.mul ("x" : Str) (m.val : Int)).length ≤ 100 ∧ ("ice" : Str) ≠ Txt.mul ("x" : Str) (m.val : Int) ∧ ("firm" : Str) ≠ Txt.mul ("x" : Str) (m.val : Int) ∧ ("fresh" : Str) ≠ Txt.mul ("x" : Str) (m.val : Int) ∧ ("bare" : Str) ≠ Txt.mul ("x" : Str) (m.val : Int) := by decide +kernel
theorem xs_at {m : Int} (h1 : 1 ≤ m) (h2 : m ≤ 90) : (Txt.split (Txt.mul ("x" : Str) m) " ").length ≠ 4 ∧ (Txt.mul ("x" : Str) m).length ≤ 100 ∧ ("ice" : Str) ≠ Txt.mul ("x" : Str) m ∧ ("firm" : Str) ≠ Txt.mul ("x" : Str) m ∧ ("fresh" : Str) ≠ Txt.mul ("x" : Str) m ∧ ("bare" : Str) ≠ Txt.mul ("x" : Str) m := by
  have e : m = (((⟨m.toNat, by omega⟩ : Fin 91).val : Nat) : Int) := by simp; omega
  have := xs_facts ⟨m.toNat, by omega⟩ (by simp; omega)
  rw [← e] at this
  exact this
theorem read_len {w : Str} (h : (Txt.split w " ").length ≠ 4) (g : w.length ≤ 100) : t_read_row w = .exc "BadText" () := by
  have g0 : SpOk w (" " : Str) := ⟨by decide +kernel, by unfold sizeLine; omega⟩
  have e : decide (lenT (Txt.split w " ") = 4) = false := by
    refine decide_eq_false fun z => h ?_
    have z : ((Txt.split w " ").length : Int) = 4 := z
    omega
  unfold t_read_row
  rw [chk_t g0, letC_eq, e]
  rfl
theorem undo_no {t : Str} : t_Desk_undo ⟨t, [], []⟩ = .exc "BadDeed" ⟨t, [], []⟩ := by unfold t_Desk_undo; rfl
theorem eave_no {m : Int} (h : 1 ≤ m) : t_Eave_init (1 - m) = .exc "BadPlan" () := by
  unfold t_Eave_init
  rw [show decide (1 - m < 1) = true from decide_eq_true (by omega)]; rfl
theorem bears_no {m : Int} (h : 1 ≤ m) : t_ice_bears (0 - m) = .exc "BadSize" () := by
  unfold t_ice_bears
  rw [show decide (0 - m < 0) = true from decide_eq_true (by omega)]; rfl
theorem sledge_ok {m : Int} (h : 1 ≤ m) : t_Sledge_init m = .ok ⟨m, [], 10⟩ := by
  unfold t_Sledge_init
  rw [show decide (m < 1) = false from decide_eq_false (by omega)]; rfl
theorem put_no {m : Int} (h : 1 ≤ m) : t_Sledge_put ⟨m, [], 10⟩ "wood" (m + 1) = .exc "Breaks" ⟨m, [], 10⟩ := by
  have w0 : t_Sledge_weight ⟨m, [], 10⟩ = .ok 0 := rfl
  unfold t_Sledge_put
  rw [show decide (("wood" : Str) = "") = false from by decide +kernel, show dhas ([] : List (Str × Int)) "wood" = false from rfl, show decide (m + 1 < 1) = false from decide_eq_false (by omega), w0]
  simp only [Bool.or_self, Bool.false_eq_true, if_false, ct_bind_nx, er_mx_ok, er_bindC_ok]
  rw [show decide (m < 0 + (m + 1)) = true from decide_eq_true (by omega)]
  rfl
theorem wall_ok {m : Int} (h : 1 ≤ m) : t_Wall_init m = .ok ⟨m, []⟩ := by
  unfold t_Wall_init
  rw [show decide (m < 1) = false from decide_eq_false (by omega)]; rfl
theorem lay_no {m : Int} (h : 1 ≤ m) : t_Wall_lay ⟨m, []⟩ 0 0 (m + 1) = .exc "NoRoom" ⟨m, []⟩ := by
  unfold t_Wall_lay
  have l0 : lenT ([] : List (List (Int × Int))) = 0 := rfl
  rw [l0]
  rw [show decide ((0 : Int) ≤ 0) = true from rfl, show decide ((0 : Int) < 0) = false from rfl, show decide (m + 1 < 1) = false from decide_eq_false (by omega), show decide (m < 0 + (m + 1)) = true from decide_eq_true (by omega)]
  simp only [Bool.and_self, Bool.not_true, Bool.false_eq_true, if_false, ct_bind_nx, false_implies, chk_t trivial, letC_eq, Bool.or_true, if_true, ct_bind_exc]
  rfl
theorem drag_no {m : Int} (h1 : 1 ≤ m) (h2 : m ≤ 90) : t_drag_of (Txt.mul ("x" : Str) m) = .exc "NoSuch" () := by
  obtain ⟨_, _, a, b, c, d⟩ := xs_at h1 h2
  unfold t_drag_of
  simp [forT_cons, a, b, c, d]
theorem wax_no {m : Int} (h : 1 ≤ m) : t_wax_for ((0 - 40) - m) = .exc "NoWay" () := by
  have e : ((0 : Int) - 40) - m = -40 - m := by omega
  have f : ∀ k : Int, -40 ≤ k → ¬ (k ≤ -40 - m) := fun k hk => by omega
  rw [e]
  unfold t_wax_for
  simp [forT_cons, f 1 (by omega), f (-1) (by omega), f (-4) (by omega), f (-10) (by omega), f (-18) (by omega), f (-40) (by omega)]
theorem law_ok (d : List Int) (hd : d.length = 3) : t_lawbody d = .nx () := by
  refine WC.lawnx ?_
  unfold t_lawbody
  have di : t_Desk_init = .ok ⟨"1 grit bought 9\n2 grit carried 6\n2 salt bought 4\n3 grit lent 1", [], []⟩ := rfl
  refine wc_bindC (we_bind (we_mx (roll_we hd (by omega) (by omega) fun r d1 r0 r9 h1 => we_map (we_mx (we_of di ?_)))))
  dsimp only
  have mo : MulSOk ("x" : Str) (1 + r) := ⟨by omega, by omega, by decide +kernel⟩
  refine wc_chk mo (wc_chk mo (wc_bindC (we_bind (we_mx (roll_we h1 (by omega) (by omega) fun k d2 k0 k8 h2 => ?_)))))
  have ge : RgOk 8 := rgOk_of (by omega) (by omega)
  refine we_chk ⟨ge, lsok_small (by decide +kernel), lsok_small (by rw [List.length_map]; decide +kernel)⟩ (we_ok ?_)
  dsimp only
  obtain ⟨m, em⟩ : ∃ m, m = 1 + r := ⟨_, rfl⟩
  rw [← em]
  have m1 : 1 ≤ m := by omega
  have m9 : m ≤ 90 := by omega
  obtain ⟨x1, x2, _⟩ := xs_at m1 m9
  simp only [undo_no, eave_no m1, bears_no m1, read_len x1 x2, sledge_ok m1, put_no m1, wall_ok m1, lay_no m1, drag_no m1 m9, wax_no m1, er_mx_exc, er_mx_ok, er_bind_ok, exN_exc, exO_exc]
  have ek : k = 0 ∨ k = 1 ∨ k = 2 ∨ k = 3 ∨ k = 4 ∨ k = 5 ∨ k = 6 ∨ k = 7 := by omega
  rcases ek with rfl | rfl | rfl | rfl | rfl | rfl | rfl | rfl <;> exact wc_eq (by unfold lamsC; rw [if_neg (by omega)]; first | rfl | decide +kernel) trivial
end
end K22
end
section
set_option Elab.async false
set_option linter.all false
set_option maxRecDepth 100000
set_option maxHeartbeats 4000000
namespace K22
open PySem PySem.Spec PyProof.Rows L2 S3
noncomputable section
variable {h : AH}
abbrev dice (a b c : Int) : AO := .lst [.int a, .int b, .int c]
theorem dice_eq {h : AH} (x : Int) : ∃ a b c, F__law_dice [.int x] h = .ok (.ref h.length) (h ++ [dice a b c]) := by
  have p18 : CPow 10 18 := ⟨by omega, by omega, by decide⟩
  by_cases h1 : -10 < x ∧ x < 10
  · refine ⟨if x < 0 then -x else x, 0, 2, ?_⟩
    simp [f__law_dice, defSem, m__law_dice, mVar, h1, gAbs, dice, sizeLine]
  · refine ⟨x, 1 + x % 1009, if 10 ^ 18 ≤ x then 1 else 0, ?_⟩
    have ep : gPow (.int 10) (.int 18) h = some (.int (10 ^ 18)) := by
      show (if CPow 10 18 then some (AV.int (10 ^ (18 : Int).toNat)) else none) = _
      rw [if_pos p18]
      rfl
    by_cases h2 : -10 < x
    · have h3 : ¬ x < 10 := fun z => h1 ⟨h2, z⟩
      simp [f__law_dice, defSem, m__law_dice, mVar, h2, h3, gInt, gMod_int (show (0 : Int) < 1009 by omega), ep, dice, sizeLine]
    · simp [f__law_dice, defSem, m__law_dice, mVar, h2, gInt, gMod_int (show (0 : Int) < 1009 by omega), ep, dice, sizeLine]
theorem rounds_eq (ns : List Int) : ∃ a b c, F__law_rounds [.rdl (ns.map .int), .int 1] [] = .ok (.lst [.ref 0]) [dice a b c] := by
  cases ns with
  | nil =>
    obtain ⟨a, b, c, e⟩ := dice_eq (h := []) 0
    refine ⟨a, b, c, ?_⟩
    have e' : f__law_dice [.int 0] [] = .ok (.ref 0) [dice a b c] := e
    simp [f__law_rounds, defSem, m__law_rounds, mVar, cut_to, lcC, e', mYes, sizeLine]
  | cons n ns =>
    obtain ⟨a, b, c, e⟩ := dice_eq (h := []) n
    refine ⟨a, b, c, ?_⟩
    have e' : f__law_dice [.int n] [] = .ok (.ref 0) [dice a b c] := e
    have eq0 : gEq false (.lst [.int n]) (.lst []) [] = some (.bl false) := by rw [eq_nilL (by simp)]; rfl
    simp [f__law_rounds, defSem, m__law_rounds, mVar, cut_to, lcC, e', mYes, sizeLine, eq0]
theorem law_true (ns : List Int) : ∃ h', F_law [.rdl (ns.map .int)] [] = .ok (.bl true) h' := by
  obtain ⟨a, b, c, e⟩ := rounds_eq ns
  exact S9.law_all (n := 5) (B := B_law_1) (r := F__law_rounds) (d := [a, b, c]) e (fun F => T_lawbody F [a, b, c]) (law_ok [a, b, c] rfl) (by simp only [S3.wipeA, List.replicate, List.set])
end
end K22
end
set_option Elab.async false
set_option linter.all false
set_option maxRecDepth 100000
set_option maxHeartbeats 0
namespace K22
open PySem PySem.Spec PyProof.Rows L2 S3
theorem lawAt {w : World} {K : PySem.W.Frag} {mg : Str → Option Value} {fa : Addr} {h : Heap} (KX : K.In h) (G : h.Ns mainGlobals mg) (hmg : mg "law" = some (.ref fa)) (c : He.SaysI faL fnL [] tfL exL ssL w h K) :
    LamX.LawAtS PySem.Challenge.rw_snowhall_k22_refusals_apart w K (L2.CX PySem.Challenge.rw_snowhall_k22_refusals_apart.prog w) 8 63 "script" mg fa h := by
  obtain ⟨fd, hb, hg, nd, hT⟩ := tx_of KX G c
  have ea : fa = He.fAd K d_law.at_ := by
    rw [hg] at hmg
    injection hmg with hmg
    injection hmg with hmg
    exact hmg.symm
  refine ⟨fd, tfL.map (He.cT K), S3.spF (BX K mg) F_law, fun p hp => ?_, fun p hp => ?_, fun p hp => ?_, hb, fun H a ns hl _ hH hS => ?_, fun base hK hN hB => ?_⟩
  · obtain ⟨q, hq, rfl⟩ := List.mem_map.mp hp
    exact c.x.empty q hq
  · obtain ⟨q, hq, rfl⟩ := List.mem_map.mp hp
    exact c.x.out q hq
  · obtain ⟨q, hq, rfl⟩ := List.mem_map.mp hp
    exact PySem.W.codeHd_of_K KX (c.x.hd q hq)
  · obtain ⟨h', e⟩ := law_true ns
    refine S3.law_start (fun p hp => ?_) hS e
    have key : ∀ p ∈ tbL K, ∃ q ∈ tfL, p.1 = (He.cT K q).2 := by
      intro p hp
      have e0 : (tbL K).map (·.1) = tfL.map fun q => (He.cT K q).2 := rfl
      have h1 : p.1 ∈ (tbL K).map (·.1) := List.mem_map.mpr ⟨p, hp, rfl⟩
      rw [e0] at h1
      obtain ⟨q, hq, e⟩ := List.mem_map.mp h1
      exact ⟨q, hq, e.symm⟩
    obtain ⟨q, hq, e⟩ := key p hp
    rw [e]
    exact hH _ (List.mem_map.mpr ⟨q, hq, rfl⟩)
  · obtain ⟨T, e1, e2⟩ := hT base fun p hp => hB _ (List.mem_map.mpr ⟨p, hp, rfl⟩)
    rw [ea, ← e1, ← e2]
    exact OK_law T
end K22
open PySem PySem.W PySem.Calls PyProof.Rows
theorem PySem.Challenge.cw_snowhall_k22_refusals_apart_holds : PySem.Challenge.rw_snowhall_k22_refusals_apart.Holds := by
  w_on; o_law
  refine HandSHeadRun.head_any (r := OpenLaw.row PySem.Challenge.rw_snowhall_k22_refusals_apart) (q := view (OpenLaw.row PySem.Challenge.rw_snowhall_k22_refusals_apart).prog [36]) (H := K22.hk) (ob := K22.ob) (M := 6000) (loose := K22.looseL) (d := HandSHeadRun.topDef (OpenLaw.row PySem.Challenge.rw_snowhall_k22_refusals_apart).prog 36) (kwd := []) K22.ob_eq
    (by kernel_rfl) (fun s => by kernel_rfl) K22.run (by kernel_rfl) (by kernel_rfl) (by kernel_rfl) (by rfl) (by first | assumption | decide +kernel) (by decide +kernel) ⟨rfl, rfl, rfl, rfl, rfl, by decide +kernel⟩ ?hw ?hc
  case hw => w_witness2
  case hc =>
    refine LamX.walk_ofTsE (l := PySem.Challenge.rw_snowhall_k22_refusals_apart) (n := 63) (k := 8) (x := "script") (CX := fun w => L2.CX PySem.Challenge.rw_snowhall_k22_refusals_apart.prog w) rfl (by decide) (by kernel_rfl) ⟨rfl, by decide, by decide⟩ ?F (fun _ _ _ _ _ z => by obtain ⟨_, _, _, _, _, _, _, _, _, _, _, _, z⟩ := z; exact z)
    intro w mg fa h Y G hmg0
    obtain ⟨K, KX, c⟩ := Y
    have hmg : mg ("law" : PySem.Str) = some (.ref fa) := by
      have e : (HandSHeadRun.topDef (OpenLaw.row PySem.Challenge.rw_snowhall_k22_refusals_apart).prog 36).name = ("law" : PySem.Str) := by kernel_rfl
      rw [← e]
      exact hmg0
    exact ⟨K, KX, K22.lawAt KX G hmg c⟩
